import PyProof.Rows.All
import Wide.All
import OpenK.AllK
import Wide.FinOn
import KE.KStateDown
import HandS.ForMost
import HandS.More
import HandS.WordsExc
import HandS.Defaults
import HandS.Walk
import HandS.Zip
import HandS.Conv
import HandS.TupAny
import HandS.IsInst
import HandS.SetKeys
import HandS.SortInts
import HandS.SetFor
import HandS.Star
import HandS.Deep
import HandS.Wide
import KE.GoesMore
import HandS.HeadHook1
import HandS.HeadHook2
import PySem.Challenge.RW_nosuchthings_k03_whole_one_bundle_or_the
import HandS.SortKw
import KE.SortKeyHeap
import HandS.CallRecv
import HandS.Strs
import KE.KDictList
import HandS.Sort
import HandS.Style
import HandS.Ends
import HandS.HeadEnd
import PyProof.ReprRoads
import PyProof.CallFns
import HandS.FStrTup
import HandS.Head0
import HandS.Head1
import HandS.Head2
set_option Elab.async false
set_option linter.all false
/-! NtP: units, by plain lists of ints. -/
namespace Nt
abbrev Cls' := List (List Int)
/-- sure by units: given, or the last literal of a clause whose others are sure the other way -/
inductive Der (cs : Cls') (gs : List Int) : Int → Prop where
  | given {l : Int} (h : l ∈ gs) : Der cs gs l
  | unit {c : List Int} {l : Int} (h : c ∈ cs) (m : l ∈ c) (o : ∀ y ∈ c, y ≠ l → Der cs gs (-y)) : Der cs gs l
theorem Der.cut {cs ds : Cls'} {gs hs : List Int} (hc : ∀ c ∈ cs, c ∈ ds) (hg : ∀ g ∈ gs, Der ds hs g) {l : Int} (d : Der cs gs l) : Der ds hs l := by
  induction d with
  | given h => exact hg _ h
  | unit h m o ih => exact .unit (hc _ h) m ih
theorem Der.mono {cs ds : Cls'} {gs hs : List Int} (hc : ∀ c ∈ cs, c ∈ ds) (hg : ∀ g ∈ gs, g ∈ hs) {l : Int} (d : Der cs gs l) : Der ds hs l := d.cut hc fun g h => .given (hg g h)
/-- some clause, or a given literal alone, has all its literals sure the other way -/
def Clashes (cs : Cls') (gs : List Int) : Prop := (∃ c ∈ cs, ∀ l ∈ c, Der cs gs (-l)) ∨ ∃ g ∈ gs, Der cs gs (-g)
theorem Clashes.cut {cs ds : Cls'} {gs hs : List Int} (hc : ∀ c ∈ cs, c ∈ ds) (hg : ∀ g ∈ gs, Der ds hs g) (h : Clashes cs gs) : (∃ c ∈ ds, ∀ l ∈ c, Der ds hs (-l)) ∨ ∃ g, Der ds hs g ∧ Der ds hs (-g) := by
  rcases h with ⟨c, h1, h2⟩ | ⟨g, h1, h2⟩
  · exact .inl ⟨c, hc c h1, fun l hl => (h2 l hl).cut hc hg⟩
  · exact .inr ⟨g, hg g h1, h2.cut hc hg⟩
/-- what is sure both ways clashes -/
theorem clash_both {cs : Cls'} {gs : List Int} {g : Int} (d : Der cs gs g) (e : Der cs gs (-g)) : Clashes cs gs := by
  cases d with
  | given h => exact .inr ⟨g, h, e⟩
  | unit h m o =>
    refine .inl ⟨_, h, fun y hy => ?_⟩
    by_cases q : y = g
    · rw [q]; exact e
    · exact o y hy q
theorem Clashes.cut' {cs ds : Cls'} {gs hs : List Int} (hc : ∀ c ∈ cs, c ∈ ds) (hg : ∀ g ∈ gs, Der ds hs g) (h : Clashes cs gs) : Clashes ds hs := by
  rcases h.cut hc hg with h | ⟨g, h1, h2⟩
  · exact .inl h
  · exact clash_both h1 h2
theorem Clashes.mono {cs ds : Cls'} {gs hs : List Int} (hc : ∀ c ∈ cs, c ∈ ds) (hg : ∀ g ∈ gs, g ∈ hs) (h : Clashes cs gs) : Clashes ds hs := h.cut' hc fun g k => .given (hg g k)
/-- of a clause: one literal is sure, or two are open -/
def Quiet (S : List Int) (c : List Int) : Prop := (∃ l ∈ c, l ∈ S) ∨ ∃ l ∈ c, ∃ m ∈ c, l ≠ m ∧ -l ∉ S ∧ -m ∉ S
/-- what a run of units tells: the sure ones, a clause that clashes or none -/
structure RunOk (cs : Cls') (gs S : List Int) (o : Option (List Int)) : Prop where
  der : ∀ l ∈ S, Der cs gs l
  cons : ∀ l ∈ S, -l ∉ S
  nd : S.Nodup
  quiet : o = none → ∀ c ∈ cs ++ gs.map (fun g => [g]), Quiet S c
  clash : ∀ c, o = some c → c ∈ cs ++ gs.map (fun g => [g]) ∧ ∀ l ∈ c, -l ∈ S
theorem RunOk.clashes {cs : Cls'} {gs S : List Int} {c : List Int} (h : RunOk cs gs S (some c)) : Clashes cs gs := by
  obtain ⟨h1, h2⟩ := h.clash c rfl
  rcases List.mem_append.mp h1 with h1 | h1
  · exact .inl ⟨c, h1, fun l hl => h.der _ (h2 l hl)⟩
  · obtain ⟨g, hg, rfl⟩ := List.mem_map.mp h1
    exact .inr ⟨g, hg, h.der _ (h2 g (by simp))⟩
theorem RunOk.all {cs : Cls'} {gs S : List Int} (h : RunOk cs gs S none) {l : Int} (d : Der cs gs l) : l ∈ S := by
  have key : ∀ {c : List Int} {l : Int}, Quiet S c → l ∈ c → (∀ y ∈ c, y ≠ l → -y ∈ S) → l ∈ S := by
    rintro c l (⟨m, hm, hs⟩ | ⟨m, hm, n, hn, hmn, o1, o2⟩) hl ho
    · by_cases e : m = l
      · rw [← e]; exact hs
      · exact absurd (ho m hm e) (h.cons m hs)
    · by_cases e : m = l
      · exact absurd (ho n hn (fun z => hmn (e.trans z.symm))) o2
      · exact absurd (ho m hm e) o1
  induction d with
  | given hg => exact key (h.quiet rfl _ (List.mem_append_right _ (List.mem_map.mpr ⟨_, hg, rfl⟩))) (by simp) (by simp)
  | unit hc m o ih => exact key (h.quiet rfl _ (List.mem_append_left _ hc)) m ih
theorem RunOk.mem {cs : Cls'} {gs S : List Int} (h : RunOk cs gs S none) (l : Int) : l ∈ S ↔ Der cs gs l := ⟨h.der l, h.all⟩
theorem RunOk.no {cs : Cls'} {gs S : List Int} (h : RunOk cs gs S none) : ¬ Clashes cs gs := by
  have key : ∀ c, Quiet S c → ¬ ∀ l ∈ c, -l ∈ S := by
    rintro c (⟨m, hm, hs⟩ | ⟨m, hm, n, hn, hmn, o1, o2⟩) ha
    · exact h.cons m hs (ha m hm)
    · exact o1 (ha m hm)
  rintro (⟨c, hc, ha⟩ | ⟨g, hg, ha⟩)
  · exact key c (h.quiet rfl c (List.mem_append_left _ hc)) fun l hl => h.all (ha l hl)
  · exact key [g] (h.quiet rfl _ (List.mem_append_right _ (List.mem_map.mpr ⟨g, hg, rfl⟩))) fun l hl => by
      rw [List.mem_singleton.mp hl]; exact h.all ha
theorem RunOk.iff {cs : Cls'} {gs S : List Int} {o : Option (List Int)} (h : RunOk cs gs S o) : o.isSome = true ↔ Clashes cs gs := by
  cases o with
  | none => exact ⟨fun z => absurd z (by simp), fun z => absurd z h.no⟩
  | some c => exact ⟨fun _ => h.clashes, fun _ => rfl⟩
/-- a clause follows by units -/
def Rup (cs : Cls') (c : List Int) : Prop := Clashes cs (c.map fun l => -l)
theorem Rup.mono {cs ds : Cls'} {c : List Int} (h : Rup cs c) (hc : ∀ x ∈ cs, x ∈ ds) : Rup ds c := Clashes.mono hc (fun _ h => h) h
/-- each follows by units from those ahead of it -/
def Steps (cs : Cls') : List (List Int) → Prop
  | [] => True
  | c :: r => Rup cs c ∧ Steps (cs ++ [c]) r
/-! ### a run, step by step -/
theorem Quiet.step {S c : List Int} {l : Int} (h : Quiet S c) (n : -l ∉ c) : Quiet (S ++ [l]) c := by
  rcases h with ⟨m, h1, h2⟩ | ⟨x, hx, y, hy, hxy, o1, o2⟩
  · exact .inl ⟨m, h1, List.mem_append_left _ h2⟩
  · have f : ∀ z ∈ c, -z ∉ S → -z ∉ S ++ [l] := by
      intro z hz o h
      rcases List.mem_append.mp h with h | h
      · exact o h
      · have e : -z = l := by simpa using h
        exact n (by rw [← e, Int.neg_neg]; exact hz)
    exact .inr ⟨x, hx, y, hy, hxy, f x hx o1, f y hy o2⟩
structure RunInv (cs : Cls') (gs S : List Int) (W : Cls') : Prop where
  der : ∀ l ∈ S, Der cs gs l
  cons : ∀ l ∈ S, -l ∉ S
  nd : S.Nodup
  win : ∀ c ∈ W, c ∈ cs ++ gs.map (fun g => [g])
  quiet : ∀ c ∈ cs ++ gs.map (fun g => [g]), c ∈ W ∨ Quiet S c
theorem RunInv.start {cs : Cls'} {gs : List Int} {sg : Cls'} (nd : ∀ c ∈ cs, c.Nodup) (h1 : ∀ c ∈ sg, c ∈ cs) (h2 : ∀ c ∈ cs, c.length < 2 → c ∈ sg) : RunInv cs gs [] (sg ++ gs.map fun g => [g]) := by
  refine ⟨by simp, by simp, List.nodup_nil, fun c hc => ?_, fun c hc => ?_⟩
  · rcases List.mem_append.mp hc with h | h
    · exact List.mem_append_left _ (h1 c h)
    · exact List.mem_append_right _ h
  · rcases List.mem_append.mp hc with h | h
    · by_cases e : c.length < 2
      · exact .inl (List.mem_append_left _ (h2 c h e))
      · refine .inr (.inr ?_)
        match c, nd c h, e with
        | [], _, e => simp at e
        | [_], _, e => simp at e
        | a :: b :: r, n, _ =>
          refine ⟨a, by simp, b, by simp, ?_, by simp, by simp⟩
          intro z
          subst z
          simp at n
    · exact .inl (List.mem_append_right _ h)
section
variable {cs : Cls'} {gs S : List Int} {W : Cls'} {c : List Int}
theorem RunInv.mem (I : RunInv cs gs S (W ++ [c])) : c ∈ cs ++ gs.map (fun g => [g]) := I.win c (by simp)
theorem RunInv.drop (I : RunInv cs gs S (W ++ [c])) (q : Quiet S c) : RunInv cs gs S W := by
  refine ⟨I.der, I.cons, I.nd, fun x hx => I.win x (List.mem_append_left _ hx), fun x hx => ?_⟩
  rcases I.quiet x hx with h | h
  · rcases List.mem_append.mp h with h | h
    · exact .inl h
    · rw [List.mem_singleton.mp h]; exact .inr q
  · exact .inr h
theorem RunInv.ends (I : RunInv cs gs S (W ++ [c])) (h : ∀ l ∈ c, -l ∈ S) : RunOk cs gs S (some c) := ⟨I.der, I.cons, I.nd, fun z => (by cases z), fun x hx => by cases hx; exact ⟨I.mem, h⟩⟩
theorem RunInv.done (I : RunInv cs gs S []) : RunOk cs gs S none := ⟨I.der, I.cons, I.nd, fun _ x hx => (I.quiet x hx).resolve_left (by simp), fun x hx => by cases hx⟩
theorem RunInv.add (I : RunInv cs gs S (W ++ [c])) {l : Int} (h0 : l ≠ 0) (hl : l ∈ c) (n1 : l ∉ S) (n2 : -l ∉ S) (ho : ∀ y ∈ c, y ≠ l → -y ∈ S) {R : Cls'} (h1 : ∀ x ∈ R, x ∈ cs) (h2 : ∀ x ∈ cs, -l ∈ x → x ∈ R) :
    RunInv cs gs (S ++ [l]) (W ++ R) := by
  have hd : Der cs gs l := by
    rcases List.mem_append.mp I.mem with h | h
    · exact .unit h hl fun y hy e => I.der _ (ho y hy e)
    · obtain ⟨g, hg, rfl⟩ := List.mem_map.mp h
      rw [List.mem_singleton.mp hl]; exact .given hg
  refine ⟨fun m hm => ?_, fun m hm h => ?_, ?_, fun x hx => ?_, fun x hx => ?_⟩
  · rcases List.mem_append.mp hm with h | h
    · exact I.der m h
    · rw [List.mem_singleton.mp h]; exact hd
  · rcases List.mem_append.mp hm with a | a <;> rcases List.mem_append.mp h with b | b
    · exact I.cons m a b
    · have e : -m = l := by simpa using b
      exact n2 (by rw [← e, Int.neg_neg]; exact a)
    · rw [List.mem_singleton.mp a] at b; exact n2 b
    · have e1 : m = l := by simpa using a
      have e2 : -m = l := by simpa using b
      omega
  · rw [List.nodup_append]
    exact ⟨I.nd, by simp, fun a ha b hb e => n1 (by rw [← List.mem_singleton.mp hb, ← e]; exact ha)⟩
  · rcases List.mem_append.mp hx with h | h
    · exact I.win x (List.mem_append_left _ h)
    · exact List.mem_append_left _ (h1 x h)
  · by_cases hc : -l ∈ x
    · rcases List.mem_append.mp hx with h | h
      · exact .inl (List.mem_append_right _ (h2 x h hc))
      · obtain ⟨g, hg, rfl⟩ := List.mem_map.mp h
        have e : -l = g := List.mem_singleton.mp hc
        rcases I.quiet [g] hx with k | k
        · rcases List.mem_append.mp k with k | k
          · exact .inl (List.mem_append_left _ k)
          · rw [← List.mem_singleton.mp k] at hl
            have e2 : l = g := List.mem_singleton.mp hl
            omega
        · rcases k with ⟨m, k1, k2⟩ | ⟨a, ka, b, kb, kab, _⟩
          · rw [List.mem_singleton.mp k1, ← e] at k2; exact absurd k2 n2
          · exact absurd ((List.mem_singleton.mp ka).trans (List.mem_singleton.mp kb).symm) kab
    · rcases I.quiet x hx with h | h
      · rcases List.mem_append.mp h with h | h
        · exact .inl (List.mem_append_left _ h)
        · rw [List.mem_singleton.mp h]
          exact .inr (.inl ⟨l, hl, by simp⟩)
      · exact .inr (h.step hc)
end
theorem Der.inr {cs : Cls'} {gs : List Int} {p : Int → Prop} (h1 : ∀ c ∈ cs, ∀ l ∈ c, p l) (h2 : ∀ g ∈ gs, p g) {l : Int} (d : Der cs gs l) : p l := by
  cases d with
  | given h => exact h2 _ h
  | unit h m _ => exact h1 _ h _ m
end Nt
set_option maxRecDepth 100000
set_option maxHeartbeats 1000000
/-! NtA: what the walks of this claim lean on: comprehensions and loops over known items, heaps. -/
namespace Nt
open PySem PySem.Spec PyProof.Rows L2

/-! ### heaps -/
theorem Same.new {H : Hp} {p : Addr} {o : HO} (h : H p = none) : Same H (upd H p o) := fun b u e => by
  rw [upd_ne (ne_of_none e h)]; exact e
/-- what H does not know may change -/
theorem Same.mut {H H' : Hp} {p : Addr} {o : HO} (e : Same H H') (h : H p = none) : Same H (upd H' p o) := fun b u hb => by
  rw [upd_ne (ne_of_none hb h)]; exact e b u hb
theorem Same.tup {K : PySem.W.Frag} {H H' : Hp} {a : Addr} {xs : List V} (e : Same H H') (h : SqT K H a xs) : SqT K H' a xs := by
  rcases h with (h | ⟨o, h⟩) | h
  · exact .inl (.inl (e _ _ h))
  · exact .inl (.inr ⟨o, e _ _ h⟩)
  · exact .inr h
theorem sz_le {n : Nat} (h : n ≤ 100000) : n ≤ sizeLine := Nat.le_trans h (by decide)
theorem sz_lt {n : Nat} (h : n < 100000) : n < sizeLine := Nat.lt_of_lt_of_le h (by decide)

/-! ### comprehensions -/
theorem Paired.append {α β : Type} {R : α → β → Prop} : ∀ {xs ys : List α} {us ws : List β}, Paired R xs us → Paired R ys ws → Paired R (xs ++ ys) (us ++ ws)
  | _, _, _, _, .nil, s => s
  | _, _, _, _, .cons r t, s => .cons r (Paired.append t s)
theorem Paired.mapP {α β : Type} {R S : α → β → Prop} (h : ∀ a b, R a b → S a b) : ∀ {xs : List α} {us : List β}, Paired R xs us → Paired S xs us
  | _, _, .nil => .nil
  | _, _, .cons r t => .cons (h _ _ r) (Paired.mapP h t)
theorem Paired.eqmap {α β : Type} {f : α → β} : ∀ {xs : List α} {us : List β}, Paired (fun a b => b = f a) xs us → us = xs.map f
  | _, _, .nil => rfl
  | _, _, .cons r t => by rw [List.map_cons, r, Paired.eqmap t]

/-- what a walk hands to the target: the slots behind it -/
abbrev YG {α : Type} (as : List α) (Y : Nat → Hp → V → Hp → Prop) (g : TG) (σ : L2.St) (st : α → L2.St) : Prop :=
  ∀ i x H H', Y i H x H' → ∃ a, as[i]? = some a ∧ ∀ Kt : L2.St → Hp → Prop, (∀ H2, Same H H2 → Kt (st a) H2) → g x σ H' Kt
/-- a comprehension's walk, at its list D -/
abbrev LcW (J : It) (g : TG) (tt : TT) (te : TE) (vs : List Nat) (σ : L2.St) (H1 : Hp) (Qd : Addr → Hp → Prop) : Prop :=
    ∀ D, H1 D = none → ∃ W : Nat → Nat → Hp → Prop, (∃ m, W 0 m (upd H1 D (.lst []))) ∧ ∀ i m H, W i m H →
      (J.stop i H ∧ Qd D H) ∨ (J.go i H ∧ ∃ Nx : Hp → Prop, (∀ H', Nx H' → ∃ m', m' < m ∧ W (i + 1) m' H') ∧ ∀ x H', J.yld i H x H' → g x (wipe σ vs) H' fun σ2 H2 => wipe σ2 vs = wipe σ vs ∧ tt σ2 H2 fun b H3 =>
        if b = true then te σ2 H3 fun y H4 => ∃ acc, H4 D = some (.lst acc) ∧ acc.length < sizeLine ∧ Nx (upd H4 D (.lst (acc ++ [y]))) else Nx H3)
section
variable {α : Type} {J : It} {G : Hp → Prop} {Y : Nat → Hp → V → Hp → Prop} {σ : L2.St} {H1 : Hp} {g : TG} {tt : TT} {te : TE} {vs : List Nat} {Qd : Addr → Hp → Prop}
/-- a comprehension over known items: kept by p, each item's element under R -/
theorem lcA (as : List α) (st : α → L2.St) (w : Walk J as.length G Y) (hY : YG as Y g (wipe σ vs) st) (p : α → Bool) (R : Addr → α → V → Hp → Prop)
    (hlen : as.length ≤ 100000) (hw : ∀ a, wipe (st a) vs = wipe σ vs) (hG : ∀ H, Same H1 H → G H)
    (hR : ∀ D a y H H', R D a y H → (∀ b o, b ≠ D → H b = some o → H' b = some o) → R D a y H')
    (ht : ∀ a ∈ as, ∀ H, Same H1 H → ∀ Qb : Bool → Hp → Prop, (∀ H', Same H H' → Qb (p a) H') → tt (st a) H Qb)
    (he : ∀ D, ∀ a ∈ as, ∀ H acc, p a = true → Same H1 H → H1 D = none → H D = some (.lst acc) → ∀ Qe : VK, (∀ y H', Same H H' → R D a y H' → Qe y H') → te (st a) H Qe)
    (hd : ∀ D H ys, H1 D = none → Same H1 H → H D = some (.lst ys) → Paired (fun a y => R D a y H) (as.filter p) ys → Qd D H) : LcW J g tt te vs σ H1 Qd := by
  intro D hD
  refine lc_it w (Qd := fun H => Qd D H) (fun i H => Same H1 H ∧ ∃ ys, H D = some (.lst ys) ∧ ys.length ≤ i ∧ Paired (fun a y => R D a y H) ((as.take i).filter p) ys) ⟨Same.new hD, [], upd_same, Nat.le_refl _, by rw [List.take_zero]; exact .nil⟩ (fun i H _ q => hG H q.1) ?_ ?_
  · rintro i x H H' hi ⟨s1, ys, hys, hl, hp⟩ hy
    obtain ⟨a, ha, hgo⟩ := hY i x H H' hy
    have hm : a ∈ as := List.mem_of_getElem? ha
    refine hgo _ fun H0 s0 => ⟨hw _, ht a hm H0 (s1.trans s0) _ fun H2 s2' => ?_⟩
    have s2 : Same H H2 := s0.trans s2'
    have etk : as.take (i + 1) = as.take i ++ [a] := by
      rw [List.take_add_one, ha]; rfl
    have hi2 : i < 100000 := Nat.lt_of_lt_of_le hi hlen
    cases hpa : p a with
    | true =>
      rw [if_pos rfl]
      refine he D a hm H2 ys hpa (s1.trans s2) hD (s2 _ _ hys) _ fun y H3 s3 hr => ⟨ys, s3 _ _ (s2 _ _ hys), sz_lt (by omega), ?_⟩
      have s13 : Same H H3 := s2.trans s3
      refine ⟨fun b o hb => ?_, ys ++ [y], upd_same, by rw [List.length_append]; simpa using hl, ?_⟩
      · rw [upd_ne (ne_of_none hb hD)]; exact s13 _ _ (s1 _ _ hb)
      · rw [etk, List.filter_append]
        have e1 : [a].filter p = [a] := by simp [hpa]
        rw [e1]
        refine Paired.append (Paired.mapP (fun a y r => hR D a y H _ r fun b o hb e => by rw [upd_ne hb]; exact s13 _ _ e) hp) (.cons (hR D a y H3 _ hr fun b o hb e => by rw [upd_ne hb]; exact e) .nil)
    | false =>
      rw [if_neg Bool.false_ne_true]
      refine ⟨s1.trans s2, ys, s2 _ _ hys, Nat.le_succ_of_le hl, ?_⟩
      rw [etk, List.filter_append]
      have e1 : [a].filter p = [] := by simp [hpa]
      rw [e1, List.append_nil]
      exact Paired.mapP (fun a y r => hR D a y H _ r fun b o hb e => s2 _ _ e) hp
  · rintro H ⟨s1, ys, hys, _, hp⟩
    rw [List.take_length] at hp
    exact hd D H ys hD s1 hys hp
/-- elements that are values -/
theorem lcV (as : List α) (st : α → L2.St) (w : Walk J as.length G Y) (hY : YG as Y g (wipe σ vs) st) (p : α → Bool) (v : α → V)
    (hlen : as.length ≤ 100000) (hw : ∀ a, wipe (st a) vs = wipe σ vs) (hG : ∀ H, Same H1 H → G H)
    (ht : ∀ a ∈ as, ∀ H, Same H1 H → ∀ Qb : Bool → Hp → Prop, (∀ H', Same H H' → Qb (p a) H') → tt (st a) H Qb)
    (he : ∀ a ∈ as, ∀ H, p a = true → Same H1 H → ∀ Qe : VK, (∀ H', Same H H' → Qe (v a) H') → te (st a) H Qe)
    (hd : ∀ D H, H1 D = none → Same H1 H → H D = some (.lst ((as.filter p).map v)) → Qd D H) : LcW J g tt te vs σ H1 Qd :=
  lcA as st w hY p (fun _ a y _ => y = v a) hlen hw hG (fun _ _ _ _ _ r _ => r) ht (fun D a ha H acc hp s1 _ _ Qe q => he a ha H hp s1 Qe fun H' s => q _ H' s rfl)
    fun D H ys h1 h2 h3 h4 => hd D H h1 h2 (by rw [← Paired.eqmap h4]; exact h3)
/-- elements that are tuples -/
theorem lcT (as : List α) (st : α → L2.St) (w : Walk J as.length G Y) (hY : YG as Y g (wipe σ vs) st) (p : α → Bool) (v : α → List V)
    (hlen : as.length ≤ 100000) (hw : ∀ a, wipe (st a) vs = wipe σ vs) (hG : ∀ H, Same H1 H → G H)
    (ht : ∀ a ∈ as, ∀ H, Same H1 H → ∀ Qb : Bool → Hp → Prop, (∀ H', Same H H' → Qb (p a) H') → tt (st a) H Qb)
    (he : ∀ a ∈ as, ∀ H, p a = true → Same H1 H → ∀ Qe : VK, (∀ q H', Same H H' → H' q = some (.tup (v a)) → Qe (.ref q) H') → te (st a) H Qe)
    (hd : ∀ D H ys, H1 D = none → Same H1 H → H D = some (.lst ys) → Paired (fun a y => ∃ q, y = .ref q ∧ H q = some (.tup (v a))) (as.filter p) ys → Qd D H) : LcW J g tt te vs σ H1 Qd :=
  lcA as st w hY p (fun D a y H => ∃ q, y = .ref q ∧ q ≠ D ∧ H q = some (.tup (v a))) hlen hw hG
    (fun D a y H H' ⟨q, e, n, h⟩ k => ⟨q, e, n, k q _ n h⟩) ht
    (fun D a ha H acc hp s1 hD hacc Qe k => he a ha H hp s1 Qe fun q H' s hq => k _ H' s ⟨q, rfl, ne_of hq (s _ _ hacc) (by intro z; cases z), hq⟩)
    fun D H ys h1 h2 h3 h4 => hd D H ys h1 h2 h3 (Paired.mapP (fun a y ⟨q, e, _, h⟩ => ⟨q, e, h⟩) h4)
/-- elements that are new lists -/
theorem lcL (as : List α) (st : α → L2.St) (w : Walk J as.length G Y) (hY : YG as Y g (wipe σ vs) st) (p : α → Bool) (v : α → List V)
    (hlen : as.length ≤ 100000) (hw : ∀ a, wipe (st a) vs = wipe σ vs) (hG : ∀ H, Same H1 H → G H)
    (ht : ∀ a ∈ as, ∀ H, Same H1 H → ∀ Qb : Bool → Hp → Prop, (∀ H', Same H H' → Qb (p a) H') → tt (st a) H Qb)
    (he : ∀ a ∈ as, ∀ H, p a = true → Same H1 H → ∀ Qe : VK, (∀ q H', Same H H' → H q = none → H' q = some (.lst (v a)) → Qe (.ref q) H') → te (st a) H Qe)
    (hd : ∀ D H ys, H1 D = none → Same H1 H → H D = some (.lst ys) → Paired (fun a y => ∃ q, y = .ref q ∧ H1 q = none ∧ H q = some (.lst (v a))) (as.filter p) ys → Qd D H) : LcW J g tt te vs σ H1 Qd :=
  lcA as st w hY p (fun D a y H => ∃ q, y = .ref q ∧ q ≠ D ∧ H1 q = none ∧ H q = some (.lst (v a))) hlen hw hG
    (fun D a y H H' ⟨q, e, n, n1, h⟩ k => ⟨q, e, n, n1, k q _ n h⟩) ht
    (fun D a ha H acc hp s1 hD hacc Qe k => he a ha H hp s1 Qe fun q H' s h0 hq => k _ H' s ⟨q, rfl, (ne_of_none hacc h0).symm, s1.free h0, hq⟩)
    fun D H ys h1 h2 h3 h4 => hd D H ys h1 h2 h3 (Paired.mapP (fun a y ⟨q, e, _, n, h⟩ => ⟨q, e, n, h⟩) h4)
end
/-- items as they stand -/
abbrev YN {α : Type} (as : List α) (f : α → V) : Nat → Hp → V → Hp → Prop := fun i H x H' => H' = H ∧ ∃ a, as[i]? = some a ∧ x = f a
theorem yName {α : Type} {as : List α} {f : α → V} {j : Nat} {σ : L2.St} : YG as (YN as f) (gName j) σ (fun a => σ.set j (some (f a))) := by
  rintro i x H H' ⟨rfl, a, ha, rfl⟩
  exact ⟨a, ha, fun Kt k => k _ (Same.refl _)⟩
/-- new pairs -/
abbrev YP {α : Type} (as : List α) (f1 f2 : α → V) : Nat → Hp → V → Hp → Prop := fun i H v H' => ∃ T a, v = .ref T ∧ H T = none ∧ H' = upd H T (.tup [f1 a, f2 a]) ∧ as[i]? = some a
theorem yPair {α : Type} {K : PySem.W.Frag} {as : List α} {f1 f2 : α → V} {j l : Nat} {σ : L2.St} : YG as (YP as f1 f2) (gTup K 2 (gCons (gName j) (gCons (gName l) gNil))) σ (fun a => (σ.set j (some (f1 a))).set l (some (f2 a))) := by
  rintro i x H H' ⟨T, a, rfl, hT, rfl, ha⟩
  exact ⟨a, ha, fun Kt k => ⟨T, _, rfl, SqT.of upd_same, rfl, _, _, rfl, _, _, rfl, rfl, k _ (Same.new hT)⟩⟩

/-! ### what is walked -/
section
variable {α : Type} {K : PySem.W.Frag} {a b : Addr}
theorem wkL (as : List α) (f : α → V) : Walk (Itl K a) as.length (fun H => SqL K H a (as.map f)) (YN as f) := by
  have w := walk_list (K := K) (a := a) (xs := as.map f)
  rw [List.length_map] at w
  refine w.mono (fun H h => h) fun i H x H' hi h y => ⟨y.1, ?_⟩
  have e := y.2
  rw [List.getElem?_map] at e
  cases q : as[i]? with
  | none => rw [q] at e; cases e
  | some z => rw [q] at e; exact ⟨z, rfl, (Option.some.inj e).symm⟩
theorem wkT (as : List α) (f : α → V) : Walk (Itt K a) as.length (fun H => SqT K H a (as.map f)) (YN as f) := by
  have w := walk_tup (K := K) (a := a) (xs := as.map f)
  rw [List.length_map] at w
  refine w.mono (fun H h => h) fun i H x H' hi h y => ⟨y.1, ?_⟩
  have e := y.2
  rw [List.getElem?_map] at e
  cases q : as[i]? with
  | none => rw [q] at e; cases e
  | some z => rw [q] at e; exact ⟨z, rfl, (Option.some.inj e).symm⟩
theorem wkR {lo : Int} {n : Nat} : Walk (Itr lo n) ((List.range n).map fun (i : Nat) => lo + (i : Int)).length (fun _ => True) (fun i H x H' => H' = H ∧ ∃ a, ((List.range n).map fun (i : Nat) => lo + (i : Int))[i]? = some a ∧ x = V.int a) := by
  have w := walk_range (lo := lo) (n := n)
  rw [show ((List.range n).map fun (i : Nat) => lo + (i : Int)).length = n by simp]
  refine w.mono (fun H h => h) fun i H x H' hi h y => ⟨y.1, lo + i, ?_, y.2⟩
  rw [List.getElem?_map, List.getElem?_range hi]; rfl
/-- zip of two tuples, of two lists -/
theorem wkZT (as : List α) (f1 f2 : α → V) {xs ys : List V} (hx : ∀ (i : Nat) a, as[i]? = some a → xs[i]? = some (f1 a)) (hy : ∀ (i : Nat) a, as[i]? = some a → ys[i]? = some (f2 a)) (hn : as.length = min xs.length ys.length) :
    Walk (RZ.ItzT K a b) as.length (fun H => SqT K H a xs ∧ SqT K H b ys) (YP as f1 f2) := by
  refine ⟨fun i _ hi q => ?_, fun _ q => ⟨xs, ys, q.1, q.2, by omega⟩, fun i H v H' hi q y => ?_⟩
  · have h1 : i < xs.length := by omega
    have h2 : i < ys.length := by omega
    exact ⟨xs, ys, xs[i], ys[i], q.1, q.2, by simp [h1], by simp [h2]⟩
  · obtain ⟨T, x, z, h1, h2, h3, h4, h5⟩ := y
    have e1 := h4 xs q.1
    have e2 := h5 ys q.2
    have ea : as[i]? = some as[i] := List.getElem?_eq_getElem hi
    rw [hx i _ ea] at e1
    rw [hy i _ ea] at e2
    cases Option.some.inj e1
    cases Option.some.inj e2
    exact ⟨T, as[i], h1, h2, h3, ea⟩
theorem wkZL (as : List α) (f1 f2 : α → V) {xs ys : List V} (hx : ∀ (i : Nat) a, as[i]? = some a → xs[i]? = some (f1 a)) (hy : ∀ (i : Nat) a, as[i]? = some a → ys[i]? = some (f2 a)) (hn : as.length = min xs.length ys.length) :
    Walk (Itz K a b) as.length (fun H => SqL K H a xs ∧ SqL K H b ys) (YP as f1 f2) := by
  refine (walk_zip (K := K) (a := a) (b := b) (xs := xs) (ys := ys) hn).mono (fun H h => h) fun i H v H' hi _ y => ?_
  obtain ⟨T, x, z, h1, h2, h3, e1, e2⟩ := y
  have ea : as[i]? = some as[i] := List.getElem?_eq_getElem hi
  have e1 : xs[i]? = some x := e1
  have e2 : ys[i]? = some z := e2
  rw [hx i _ ea] at e1
  rw [hy i _ ea] at e2
  cases Option.some.inj e1
  cases Option.some.inj e2
  exact ⟨T, as[i], h1, h2, h3, ea⟩
theorem wkE (as : List α) (f : α → V) : Walk (Ite K a) as.zipIdx.length (fun H => SqL K H a (as.map f)) (YP as.zipIdx (fun p => .int (p.2 : Int)) (fun p => f p.1)) := by
  have w := walk_enum (K := K) (a := a) (xs := as.map f)
  rw [List.length_map] at w
  rw [List.length_zipIdx]
  refine w.mono (fun H h => h) fun i H v H' hi _ y => ?_
  obtain ⟨T, x, z, h1, h2, h3, e1, e2⟩ := y
  have ea : as[i]? = some as[i] := List.getElem?_eq_getElem hi
  have e2 : (as.map f)[i]? = some z := e2
  rw [List.getElem?_map, ea] at e2
  cases Option.some.inj e1
  cases Option.some.inj e2
  refine ⟨T, (as[i], i), h1, h2, h3, ?_⟩
  rw [List.getElem?_zipIdx, ea]
  simp
end

/-! ### for -/
section
variable {α : Type} {J : It} {G : Hp → Prop} {Y : Nat → Hp → V → Hp → Prop} {σ : L2.St} {H : Hp} {g : TG} {tb : TS} {D : Ends}
abbrev ForW (J : It) (g : TG) (tb : TS) (D : Ends) (σ : L2.St) (H : Hp) : Prop :=
    ∃ W : Nat → Nat → L2.St → Hp → Prop, (∃ m, W 0 m σ H) ∧ ∀ i m σ H, W i m σ H →
      (J.stop i H ∧ D.nx σ H) ∨ (J.go i H ∧ ∃ N : L2.St → Hp → Prop, (∀ σ' H', N σ' H' → ∃ m', m' < m ∧ W (i + 1) m' σ' H') ∧ ∀ x H', J.yld i H x H' → g x σ H' fun σ2 H2 => tb { D with nx := N, ct := N, bk := D.nx } σ2 H2)
theorem forA (as : List α) (st : L2.St → α → L2.St) (w : Walk J as.length G Y) (hY : ∀ σ, YG as Y g σ (st σ)) (Pv : List α → L2.St → Hp → Prop) (h0 : Pv [] σ H) (hG : ∀ l σ H, Pv l σ H → G H)
    (hs : ∀ l a r σ H H', as = l ++ a :: r → Pv l σ H → Same H H' → tb { D with nx := Pv (l ++ [a]), ct := Pv (l ++ [a]), bk := D.nx } (st σ a) H') (hd : ∀ σ H, Pv as σ H → D.nx σ H) : ForW J g tb D σ H := by
  refine for_it w (fun i σ H => Pv (as.take i) σ H) (by rw [List.take_zero]; exact h0) (fun i σ H _ q => hG _ _ _ q) ?_ (fun σ H q => hd σ H (by rw [List.take_length] at q; exact q))
  intro i x σ H H' hi p hy
  obtain ⟨a, ha, hgo⟩ := hY σ i x H H' hy
  obtain ⟨hlt, hge⟩ := List.getElem?_eq_some_iff.mp ha
  have e1 : as = as.take i ++ a :: as.drop (i + 1) := by
    rw [← hge, List.getElem_cons_drop, List.take_append_drop]
  have etk : as.take (i + 1) = as.take i ++ [a] := by
    rw [List.take_add_one, ha]; rfl
  rw [etk]
  exact hgo _ fun H2 s2 => hs _ a _ σ H H2 e1 p s2
end

/-! ### clauses: tuples of ints, by their places -/
abbrev Cl := Addr × List Int
def rf (x : Cl) : V := .ref x.1
def CLs (H : Hp) (as : List Cl) : Prop := ∀ x ∈ as, H x.1 = some (.tup (x.2.map V.int))
theorem CLs.mono {H H' : Hp} {as : List Cl} (h : CLs H as) (s : Same H H') : CLs H' as := fun x hx => s _ _ (h x hx)
theorem paired_cls {α : Type} {H : Hp} {f : α → List Int} : ∀ {xs : List α} {ys : List V}, Paired (fun a y => ∃ q, y = .ref q ∧ H q = some (.tup ((f a).map V.int))) xs ys → ∃ as : List Cl, ys = as.map rf ∧ as.map (·.2) = xs.map f ∧ CLs H as
  | _, _, .nil => ⟨[], rfl, rfl, fun _ h => by cases h⟩
  | _, _, .cons (a := a) ⟨q, e, h⟩ t => by
    obtain ⟨as, e1, e2, h3⟩ := paired_cls t
    refine ⟨(q, f a) :: as, by rw [e, e1]; rfl, by rw [List.map_cons, List.map_cons, e2], fun x hx => ?_⟩
    rcases List.mem_cons.mp hx with rfl | hx
    · exact h
    · exact h3 x hx
/-! ### without tests -/
theorem filter_tt {α : Type} (as : List α) : (as.filter fun _ => true) = as := List.filter_eq_self.mpr fun _ _ => rfl
section
variable {α : Type} {J : It} {G : Hp → Prop} {Y : Nat → Hp → V → Hp → Prop} {σ : L2.St} {H1 : Hp} {g : TG} {te : TE} {vs : List Nat} {Qd : Addr → Hp → Prop}
theorem lcV0 (as : List α) (st : α → L2.St) (w : Walk J as.length G Y) (hY : YG as Y g (wipe σ vs) st) (v : α → V)
    (hlen : as.length ≤ 100000) (hw : ∀ a, wipe (st a) vs = wipe σ vs) (hG : ∀ H, Same H1 H → G H)
    (he : ∀ a ∈ as, ∀ H, Same H1 H → ∀ Qe : VK, (∀ H', Same H H' → Qe (v a) H') → te (st a) H Qe)
    (hd : ∀ D H, H1 D = none → Same H1 H → H D = some (.lst (as.map v)) → Qd D H) : LcW J g tYes te vs σ H1 Qd :=
  lcV as st w hY (fun _ => true) v hlen hw hG (fun a ha H s Qb q => q H (Same.refl _)) (fun a ha H _ s Qe q => he a ha H s Qe q) (by rw [filter_tt]; exact hd)
theorem lcT0 (as : List α) (st : α → L2.St) (w : Walk J as.length G Y) (hY : YG as Y g (wipe σ vs) st) (v : α → List V)
    (hlen : as.length ≤ 100000) (hw : ∀ a, wipe (st a) vs = wipe σ vs) (hG : ∀ H, Same H1 H → G H)
    (he : ∀ a ∈ as, ∀ H, Same H1 H → ∀ Qe : VK, (∀ q H', Same H H' → H' q = some (.tup (v a)) → Qe (.ref q) H') → te (st a) H Qe)
    (hd : ∀ D H ys, H1 D = none → Same H1 H → H D = some (.lst ys) → Paired (fun a y => ∃ q, y = .ref q ∧ H q = some (.tup (v a))) as ys → Qd D H) : LcW J g tYes te vs σ H1 Qd :=
  lcT as st w hY (fun _ => true) v hlen hw hG (fun a ha H s Qb q => q H (Same.refl _)) (fun a ha H _ s Qe q => he a ha H s Qe q) (by rw [filter_tt]; exact hd)
theorem lcL0 (as : List α) (st : α → L2.St) (w : Walk J as.length G Y) (hY : YG as Y g (wipe σ vs) st) (v : α → List V)
    (hlen : as.length ≤ 100000) (hw : ∀ a, wipe (st a) vs = wipe σ vs) (hG : ∀ H, Same H1 H → G H)
    (he : ∀ a ∈ as, ∀ H, Same H1 H → ∀ Qe : VK, (∀ q H', Same H H' → H q = none → H' q = some (.lst (v a)) → Qe (.ref q) H') → te (st a) H Qe)
    (hd : ∀ D H ys, H1 D = none → Same H1 H → H D = some (.lst ys) → Paired (fun a y => ∃ q, y = .ref q ∧ H1 q = none ∧ H q = some (.lst (v a))) as ys → Qd D H) : LcW J g tYes te vs σ H1 Qd :=
  lcL as st w hY (fun _ => true) v hlen hw hG (fun a ha H s Qb q => q H (Same.refl _)) (fun a ha H _ s Qe q => he a ha H s Qe q) (by rw [filter_tt]; exact hd)
end
/-! ### all, any of a list of truth values just made -/
section
variable {K : PySem.W.Frag} {H : Hp} {D : Addr} {Q : VK} {α : Type} {as : List α} {g : α → Bool}
theorem all_of (h : H D = some (.lst (as.map fun a => V.bl (g a)))) (k : Q (.bl (as.all g)) H) : rAll K [.ref D] H Q := by
  refine ⟨D, as.map g, rfl, SqL.of (by rw [List.map_map]; exact h), ?_⟩
  rw [List.all_map]; exact k
theorem any_of (h : H D = some (.lst (as.map fun a => V.bl (g a)))) (k : Q (.bl (as.any g)) H) : rAny K [.ref D] H Q := by
  refine ⟨D, as.map g, rfl, SqL.of (by rw [List.map_map]; exact h), ?_⟩
  rw [List.any_map]; exact k
end
/-! ### slices and sums of tuples, whichever object comes -/
section
variable {K : PySem.W.Frag} {H : Hp} {a b : Addr} {xs ys : List V} {lo hi : Option Int} {Q : VK}
theorem slA_of (h : H a = some (.tup xs)) (k : ∀ b H', Same H H' → H' b = some (.tup (cutV xs lo hi)) → Q (.ref b) H') : rSlA K (.ref a) lo hi H Q := by
  refine ⟨a, xs, rfl, SqT.of h, fun hw => k a H (Same.refl _) ?_, fun hw p hp => k p _ (Same.new hp) upd_same⟩
  have e : cutV xs lo hi = xs := by
    unfold cutV
    rw [hw.1, hw.2]
    simp
  rw [e]; exact h
theorem catA_of (h : H a = some (.tup xs)) (h2 : H b = some (.tup ys)) (hz : xs.length + ys.length ≤ 100000) (k : ∀ c H', Same H H' → H' c = some (.tup (xs ++ ys)) → Q (.ref c) H') : rCatA K (.ref a) (.ref b) H Q := by
  refine ⟨a, b, xs, ys, rfl, rfl, SqT.of h, SqT.of h2, sz_le hz, fun e => k b H (Same.refl _) (by rw [e]; exact h2), fun _ e => k a H (Same.refl _) (by rw [e, List.append_nil]; exact h), fun _ _ p hp => k p _ (Same.new hp) upd_same⟩
theorem cut_tail (xs : List V) : cutV xs (some 1) none = xs.tail := by
  unfold cutV
  cases xs with
  | nil => rfl
  | cons x r => simp [HT.sIx]
end
end Nt
set_option maxRecDepth 100000
set_option maxHeartbeats 2000000
/-! NtR: rules that the layer lacks: a walk over a list or a tuple, enumerate of a tuple, an attribute as a target, powers of great bases. -/
namespace Nt
open PySem PySem.Spec PyProof.Rows L2
section
variable {X : Cx}
/-- what is walked is of the one kind or of the other -/
def iOr (w1 w2 : TI) : TI := fun σ H R => w1 σ H R ∨ w2 σ H R
theorem pi_or {tg e : Expr} {w1 w2 : TI} (h1 : PI X tg e w1) (h2 : PI X tg e w2) : PI X tg e (iOr w1 w2) := ⟨fun pins s σ H R I h => by
  rcases h with h | h
  · exact h1.run pins s σ H R I h
  · exact h2.run pins s σ H R I h⟩
theorem pi_seq {tg e : Expr} {tl : TE} (h : PE X e tl) : PI X tg e (iOr (iList X.K tl) (iTup X.K tl)) := pi_or (pi_list h) (pi_tup h)
/-- o.f as a target -/
def gFld (K : PySem.W.Frag) (ta : TE) (f : Str) : TG := fun v σ H Q => ta σ H fun x H1 => ∃ a C dx fs, x = .ref a ∧ H1 a = some (.ins C dx fs) ∧ Cls K C ∧ NoAttr K C f ∧ fs.length < 1000 ∧ Q σ (upd H1 a (.ins C dx (putF f v fs)))
theorem pg_fld {o : Expr} {f : Str} {pos : Pos} {ta : TE} (ho : PE X o ta) : PG X (.Attribute o f pos) (gFld X.K ta f) := by
  refine ⟨fun pins s σ H v u Q I r h => ?_⟩
  rw [assign_Attribute]
  refine wpAny_bind (wpAny_holding (thn (ho.run pins s σ H _ I h) fun ov s1 ⟨x, H1, I1, rx, a, C, dx, fs, ex, ea, c, n, l, q⟩ => ?_))
  subst ex
  obtain rfl : ov = Value.ref a := rx
  refine wpAny_bind (wpAny_standAt (wpAny_bind (wpAny_holding (setattr_ok I1 ea c n l r fun s2 I2 => ?_))))
  exact wpAny_release ⟨σ, _, I2, q⟩
/-- a ** b, the base's bits times b below 2 ^ 27 -/
def CPowW (i j : Int) : Prop := 0 ≤ j ∧ (Builtin.Int.intBits i : Int) * j ≤ 2 ^ 27
theorem op_powW : OpR X (binaryOp .Pow) (rI CPowW fun i j => .int (i ^ j.toNat)) := opI fun _ _ _ _ _ _ _ hc q => pow_int hc.1 hc.2 q
end
/-! ### built-ins by name -/
theorem bt_int : bootBuiltins "int" = some (.type "int") := by decide +kernel
theorem bt_bool : bootBuiltins "bool" = some (.type "bool") := by decide +kernel
theorem bt_tuple : bootBuiltins "tuple" = some (.type "tuple") := by decide +kernel
theorem bt_list : bootBuiltins "list" = some (.type "list") := by decide +kernel
theorem bt_str : bootBuiltins "str" = some (.type "str") := by decide +kernel
theorem bt_dict : bootBuiltins "dict" = some (.type "dict") := by decide +kernel
theorem bt_set : bootBuiltins "set" = some (.type "set") := by decide +kernel
theorem bt_range : bootBuiltins "range" = some (.type "range") := by decide +kernel
theorem bt_zip : bootBuiltins "zip" = some (.type "zip") := by decide +kernel
theorem bt_enumerate : bootBuiltins "enumerate" = some (.type "enumerate") := by decide +kernel
theorem bt_len : bootBuiltins "len" = some (.builtin "len") := by decide +kernel
theorem bt_abs : bootBuiltins "abs" = some (.builtin "abs") := by decide +kernel
theorem bt_all : bootBuiltins "all" = some (.builtin "all") := by decide +kernel
theorem bt_any : bootBuiltins "any" = some (.builtin "any") := by decide +kernel
theorem bt_sorted : bootBuiltins "sorted" = some (.builtin "sorted") := by decide +kernel
theorem bt_min : bootBuiltins "min" = some (.builtin "min") := by decide +kernel
theorem bt_max : bootBuiltins "max" = some (.builtin "max") := by decide +kernel
theorem bt_sum : bootBuiltins "sum" = some (.builtin "sum") := by decide +kernel
theorem bt_isinstance : bootBuiltins "isinstance" = some (.builtin "isinstance") := by decide +kernel
theorem bt_repr : bootBuiltins "repr" = some (.builtin "repr") := by decide +kernel
section
variable {K : PySem.W.Frag}
theorem kt_ii : PySem.W.kitOne K (.type "int") (.type "int") = some true := kit_ty (by decide +kernel)
theorem kt_ib : PySem.W.kitOne K (.type "int") (.type "bool") = some false := kit_ty (by decide +kernel)
theorem kt_tt : PySem.W.kitOne K (.type "tuple") (.type "tuple") = some true := kit_ty (by decide +kernel)
theorem kt_lt : PySem.W.kitOne K (.type "list") (.type "tuple") = some false := kit_ty (by decide +kernel)
theorem kt_ss : PySem.W.kitOne K (.type "str") (.type "str") = some true := kit_ty (by decide +kernel)
end
/-! ### rules told another way -/
section
variable {X : Cx}
def rSl2 : V → Option Int → Option Int → Hp → VK → Prop := fun x lo hi H Q => ∃ a xs, x = .ref a ∧ H a = some (.tup xs) ∧ ∀ b H', Same H H' → H' b = some (.tup (cutV xs lo hi)) → Q (.ref b) H'
theorem sl_tup2 : SlR X rSl2 := by
  rintro pins s σ H x v vl vu lo hi sl Q I rx hs pl pu ⟨a, xs, rfl, h, k⟩
  exact sl_tupA pins s σ H _ v vl vu lo hi sl Q I rx hs pl pu (slA_of h k)
def rCat2 : R2 := fun x y H Q => ∃ a b xs ys, x = .ref a ∧ y = .ref b ∧ H a = some (.tup xs) ∧ H b = some (.tup ys) ∧ xs.length + ys.length ≤ 100000 ∧ ∀ c H', Same H H' → H' c = some (.tup (xs ++ ys)) → Q (.ref c) H'
theorem op_cat2 : OpR X (binaryOp .Add) rCat2 := by
  rintro pins s σ H x y v u Q I rx ry ⟨a, b, xs, ys, rfl, rfl, h1, h2, hz, k⟩
  exact op_catA pins s σ H _ _ v u Q I rx ry (catA_of h1 h2 hz k)
def rAll2 : List V → Hp → VK → Prop := fun vs H Q => ∃ (a : Addr) (α : Type) (as : List α) (g : α → Bool), vs = [.ref a] ∧ H a = some (.lst (as.map fun x => .bl (g x))) ∧ Q (.bl (as.all g)) H
theorem cr_all2 (hc : X.calm = true) : CallR X (.builtin "all") rAll2 := by
  rintro pins s σ H vs us Q I r ⟨a, α, as, g, rfl, h, k⟩
  exact cr_all hc pins s σ H _ us Q I r (all_of h k)
def rAny2 : List V → Hp → VK → Prop := fun vs H Q => ∃ (a : Addr) (α : Type) (as : List α) (g : α → Bool), vs = [.ref a] ∧ H a = some (.lst (as.map fun x => .bl (g x))) ∧ Q (.bl (as.any g)) H
theorem cr_any2 (hc : X.calm = true) : CallR X (.builtin "any") rAny2 := by
  rintro pins s σ H vs us Q I r ⟨a, α, as, g, rfl, h, k⟩
  exact cr_any hc pins s σ H _ us Q I r (any_of h k)
/-- len of what stands -/
def rLen2 : List V → Hp → VK → Prop := fun vs H Q => ∃ (a : Addr) (xs : List V), vs = [.ref a] ∧ (H a = some (.lst xs) ∨ H a = some (.tup xs)) ∧ Q (.int xs.length) H
theorem call_len2 : CallR X (.builtin "len") rLen2 := by
  rintro pins s σ H vs us Q I r ⟨a, xs, rfl, h, k⟩
  exact call_len_seq pins s σ H _ us Q I r ⟨a, xs, rfl, h.elim (fun h => .inl (SqL.of h)) (fun h => .inr (SqT.of h)), k⟩
/-- isinstance of a built-in class -/
def rIsi2 : List V → Hp → VK → Prop := fun vs H Q => ∃ (x : V) (n : String), vs = [x, .ty n] ∧
  ((∃ i, x = .int i ∧ ((n = "int" ∧ Q (.bl true) H) ∨ (n = "bool" ∧ Q (.bl false) H))) ∨ (∃ a xs, x = .ref a ∧ n = "tuple" ∧ ((H a = some (.tup xs) ∧ Q (.bl true) H) ∨ (H a = some (.lst xs) ∧ Q (.bl false) H))) ∨ (∃ z, x = .str z ∧ n = "str" ∧ Q (.bl true) H))
theorem call_isi2 : CallR X (.builtin "isinstance") rIsi2 := by
  rintro pins s σ H vs us Q I r ⟨x, n, rfl, h⟩
  rcases h with ⟨i, rfl, ⟨rfl, k⟩ | ⟨rfl, k⟩⟩ | ⟨a, xs, rfl, rfl, ⟨h, k⟩ | ⟨h, k⟩⟩ | ⟨z, rfl, rfl, k⟩
  · exact call_isi pins s σ H _ us Q I r ⟨_, _, _, _, _, rfl, .ty _, .base (.int i), kt_ii, k⟩
  · exact call_isi pins s σ H _ us Q I r ⟨_, _, _, _, _, rfl, .ty _, .base (.int i), kt_ib, k⟩
  · exact call_isi pins s σ H _ us Q I r ⟨_, _, _, _, _, rfl, .ty _, .base (.tup h), kt_tt, k⟩
  · exact call_isi pins s σ H _ us Q I r ⟨_, _, _, _, _, rfl, .ty _, .base (.lst h), kt_lt, k⟩
  · exact call_isi pins s σ H _ us Q I r ⟨_, _, _, _, _, rfl, .ty _, .base (.str z), kt_ss, k⟩
end
/-! ### rules whose readings name no fragment (they stand in comprehensions) -/
theorem PE.imp {X : Cx} {e : Expr} {t t' : TE} (h : PE X e t) (f : ∀ σ H Q, t' σ H Q → t σ H Q) : PE X e t' := ⟨fun pins s σ H Q I q => h.run pins s σ H Q I (f _ _ _ q)⟩
theorem PS.imp {X : Cx} {e : Stmt} {t t' : TS} (h : PS X e t) (f : ∀ D σ H, t' D σ H → t D σ H) : PS X e t' := ⟨fun pins s σ H D I q => h.run pins s σ H D I (f _ _ _ q)⟩
section
variable {X : Cx} {K : PySem.W.Frag}
def rIxL2 : R2 := fun x y H Q => ∃ p xs i v, x = .ref p ∧ y = .int i ∧ H p = some (.lst xs) ∧ atI xs i = some v ∧ Q v H
theorem ix_list2 : IxR X rIxL2 := by
  rintro value slice pins s σ H x y v u Q I rx ry ⟨p, xs, i, z, e1, e2, h, hi, q⟩ hs
  exact ix_list value slice pins s σ H x y v u Q I rx ry ⟨p, xs, i, z, e1, e2, SqL.of h, hi, q⟩ hs
def rIxT2 : R2 := fun x y H Q => ∃ p xs i v, x = .ref p ∧ y = .int i ∧ H p = some (.tup xs) ∧ atI xs i = some v ∧ Q v H
theorem ix_tup2 : IxR X rIxT2 := by
  rintro value slice pins s σ H x y v u Q I rx ry ⟨p, xs, i, z, e1, e2, h, hi, q⟩ hs
  exact ix_tup value slice pins s σ H x y v u Q I rx ry ⟨p, xs, i, z, e1, e2, SqT.of h, hi, q⟩ hs
theorem flat_ints (ns : List Int) : (ns.map V.int).all flatV = true := by
  rw [List.all_eq_true]
  intro x hx
  obtain ⟨i, _, rfl⟩ := List.mem_map.mp hx
  rfl
theorem inV_int (i : Int) : ∀ ns : List Int, inV (.int i) (ns.map V.int) = decide (i ∈ ns)
  | [] => rfl
  | n :: ns => by
    show (eqV (.int n) (.int i) || inV (.int i) (ns.map V.int)) = decide (i ∈ n :: ns)
    rw [inV_int i ns]
    show ((n == i) || decide (i ∈ ns)) = decide (i ∈ n :: ns)
    by_cases h : n = i
    · subst h; simp
    · have h2 : ¬ i = n := fun z => h z.symm
      simp [h, h2]
def rIn2 : R2 := fun x y H Q => ∃ (i : Int) (p : Addr) (ns : List Int), x = .int i ∧ y = .ref p ∧ (H p = some (.lst (ns.map V.int)) ∨ H p = some (.tup (ns.map V.int))) ∧ Q (.bl (decide (i ∈ ns))) H
def rNotIn2 : R2 := fun x y H Q => ∃ (i : Int) (p : Addr) (ns : List Int), x = .int i ∧ y = .ref p ∧ (H p = some (.lst (ns.map V.int)) ∨ H p = some (.tup (ns.map V.int))) ∧ Q (.bl (!decide (i ∈ ns))) H
theorem op_in2 : OpR X (compareOp .In) rIn2 := by
  rintro pins s σ H x y v u Q I rx ry ⟨i, p, ns, rfl, rfl, h, q⟩
  refine op_in_seq pins s σ H _ _ v u Q I rx ry ⟨p, _, rfl, h.elim (fun h => .inl (SqL.of h)) (fun h => .inr (SqT.of h)), rfl, flat_ints ns, ?_⟩
  rw [inV_int]; exact q
theorem op_notIn2 : OpR X (compareOp .NotIn) rNotIn2 := by
  rintro pins s σ H x y v u Q I rx ry ⟨i, p, ns, rfl, rfl, h, q⟩
  refine op_notIn_seq pins s σ H _ _ v u Q I rx ry ⟨p, _, rfl, h.elim (fun h => .inl (SqL.of h)) (fun h => .inr (SqT.of h)), rfl, flat_ints ns, ?_⟩
  rw [inV_int]; exact q
def rSum2 : List V → Hp → VK → Prop := fun vs H Q => ∃ (a : Addr) (ns : List Int), vs = [V.ref a] ∧ H a = some (.lst (ns.map V.int)) ∧ Q (.int ns.sum) H
theorem cr_sum2 (hc : X.calm = true) : CallR X (.builtin "sum") rSum2 := by
  rintro pins s σ H vs us Q I r ⟨a, ns, rfl, h, q⟩
  exact cr_sum hc pins s σ H _ us Q I r ⟨a, ns, rfl, SqL.of h, q⟩
def rMin2 : List V → Hp → VK → Prop := fun vs H Q => ∃ (a : Addr) (ns : List Int), vs = [V.ref a] ∧ H a = some (.lst (ns.map V.int)) ∧ 0 < ns.length ∧ ∀ m, m ∈ ns → (∀ y, y ∈ ns → m ≤ y) → Q (.int m) H
theorem cr_min2 (hc : X.calm = true) : CallR X (.builtin "min") rMin2 := by
  rintro pins s σ H vs us Q I r ⟨a, ns, rfl, h, q⟩
  exact cr_min hc pins s σ H _ us Q I r ⟨a, ns, rfl, SqL.of h, q⟩
/-- a list of ints in its order -/
def srt (ns : List Int) : List Int := ns.mergeSort (fun x y => decide (x ≤ y))
theorem srt_perm (ns : List Int) : (srt ns).Perm ns := List.mergeSort_perm _ _
theorem srt_pw (ns : List Int) : (srt ns).Pairwise (· ≤ ·) := by
  have h := List.pairwise_mergeSort (le := fun x y : Int => decide (x ≤ y)) (fun a b c h1 h2 => by
    have h1 := of_decide_eq_true h1
    have h2 := of_decide_eq_true h2
    exact decide_eq_true (Int.le_trans h1 h2)) (fun a b => by
    rcases Int.le_total a b with h | h
    · simp [h]
    · simp [h]) ns
  exact h.imp fun h => of_decide_eq_true h
theorem srt_one {ns ms : List Int} (p : ms.Perm ns) (o : ms.Pairwise (· ≤ ·)) : ms = srt ns := (p.trans (srt_perm ns).symm).eq_of_pairwise (fun x y _ _ h1 h2 => Int.le_antisymm h1 h2) o (srt_pw ns)
def rSorted2 : List V → Hp → VK → Prop := fun vs H Q => ∃ (a : Addr) (ns : List Int), vs = [V.ref a] ∧ (H a = some (.lst (ns.map V.int))) ∧ ∀ (p : Addr), H p = none → Q (.ref p) (upd H p (.lst ((srt ns).map V.int)))
theorem cr_sorted2 : CallR X (.builtin "sorted") rSorted2 := by
  rintro pins s σ H vs us Q I r ⟨a, ns, rfl, h, q⟩
  exact cr_sortedI pins s σ H _ us Q I r ⟨a, ns, rfl, SqL.of h, fun ms p h1 h2 hp => by rw [srt_one h1 h2]; exact q p hp⟩
def rTuple2 : List V → Hp → VK → Prop := fun xs H Q => ∃ p ys, xs = [.ref p] ∧ H p = some (.lst ys) ∧ ∀ l, H l = none → Q (.ref l) (upd H l (.tup ys))
theorem call_tuple2 : CallR X (.type "tuple") rTuple2 := by
  rintro pins s σ H vs us Q I r ⟨p, ys, rfl, h, q⟩
  exact call_tuple_of pins s σ H _ us Q I r ⟨p, ys, rfl, .inl ⟨SqL.of h, q⟩⟩
def rList2 : List V → Hp → VK → Prop := fun xs H Q => ∃ p ys, xs = [.ref p] ∧ (H p = some (.lst ys) ∨ H p = some (.tup ys)) ∧ ∀ l, H l = none → Q (.ref l) (upd H l (.lst ys))
theorem call_list2 : CallR X (.type "list") rList2 := by
  rintro pins s σ H vs us Q I r ⟨p, ys, rfl, h, q⟩
  exact call_list_of pins s σ H _ us Q I r ⟨p, ys, rfl, h.elim (fun h => .inl (SqL.of h)) (fun h => .inr (SqT.of h)), q⟩
def rSlL2 : V → Option Int → Option Int → Hp → VK → Prop := fun x lo hi H Q => ∃ a xs, x = .ref a ∧ H a = some (.lst xs) ∧ ∀ p, H p = none → Q (.ref p) (upd H p (.lst (cutV xs lo hi)))
theorem sl_list2 : SlR X rSlL2 := by
  rintro pins s σ H x v vl vu lo hi sl Q I rx hs pl pu ⟨a, xs, rfl, h, k⟩
  exact sl_list pins s σ H _ v vl vu lo hi sl Q I rx hs pl pu ⟨a, xs, rfl, SqL.of h, k⟩
/-! fields, the class known -/
end
section
variable {X : Cx} {C : Addr} {o e value : Expr} {f : Str} {pos pos' tpos : Pos} {ta tv : TE}
def tFld2 (C : Addr) (ta : TE) (f : Str) : TE := fun σ H Q => ta σ H fun x H1 => ∃ a dx fs v, x = .ref a ∧ H1 a = some (.ins C dx fs) ∧ fs.lookup f = some v ∧ Q v H1
theorem pe_fld2 (c : Cls X.K C) (n : NoAttr X.K C f) (he : PE X e ta) (hb : attributeBase e f X.env (eval e X.env) = eval e X.env := by rfl) : PE X (.Attribute e f pos) (tFld2 C ta f) := by
  refine ⟨fun pins s σ H Q I h => ?_⟩
  refine attr_of hb (thn (he.run pins s σ H _ I h) fun u s1 ⟨x, H1, I1, rx, a, dx, fs, v, ex, ea, l, q⟩ => ?_)
  subst ex
  obtain rfl : u = Value.ref a := rx
  exact getattr_ok I1 ea c n l fun u' s2 I2 ru => ⟨v, H1, I2, ru, q⟩
def sFld2 (C : Addr) (ta tv : TE) (f : Str) : TS := fun D σ H => tv σ H fun y H1 => ta σ H1 fun x H2 => ∃ a dx fs, x = .ref a ∧ H2 a = some (.ins C dx fs) ∧ fs.length < 1000 ∧ D.nx σ (upd H2 a (.ins C dx (putF f y fs)))
theorem ps_fld2 (c : Cls X.K C) (n : NoAttr X.K C f) (ha : PE X o ta) (hv : PE X value tv) (hs : swapsWith value (some (.Attribute o f pos')) pos.line X.env = pure false) : PS X (.Assign [.Attribute o f pos'] value pos) (sFld2 C ta tv f) := by
  refine ⟨fun pins s σ H D I h => ?_⟩
  refine plainObj_wpAny_Assign_Attribute (thn (hv.run pins s σ H _ I h) fun u s1 ⟨y, H1, I1, ry, q⟩ => thn (ha.run pins s1 σ H1 _ I1 q) fun ov s2 ⟨x, H2, I2, rx, a, dx, fs, ex, ea, l, q2⟩ => ?_) hs
  subst ex
  obtain rfl : ov = Value.ref a := rx
  exact setattr_ok I2 ea c n l ry fun s3 I3 => ⟨σ, _, I3, q2⟩
def sFldAug2 (C : Addr) (ta tv : TE) (rd : V → V → Hp → VK → Prop) (f : Str) : TS := fun D σ H => ta σ H fun x H1 => ∃ a dx fs v, x = .ref a ∧ H1 a = some (.ins C dx fs) ∧ fs.lookup f = some v ∧
  tv σ H1 fun y H2 => rd v y H2 fun z H3 => ∃ dx' fs', H3 a = some (.ins C dx' fs') ∧ fs'.length < 1000 ∧ D.nx σ (upd H3 a (.ins C dx' (putF f z fs')))
theorem ps_fldaug2 {op : Operator} {rd : V → V → Hp → VK → Prop} (c : Cls X.K C) (n : NoAttr X.K C f) (ha : PE X o ta) (hv : PE X value tv) (hop : InOp X op rd) : PS X (.AugAssign (.Attribute o f tpos) op value pos) (sFldAug2 C ta tv rd f) := by
  refine ⟨fun pins s σ H D I h => ?_⟩
  refine wpAny_AugAssign_AttributeAny (thn (ha.run pins s σ H _ I h) fun ov s1 ⟨x, H1, I1, rx, a, dx, fs, v, ex, ea, l, q⟩ => ?_)
  subst ex
  obtain rfl : ov = Value.ref a := rx
  refine getattr_ok I1 ea c n l fun u s2 I2 ru => thn (hv.run pins s2 σ H1 _ I2 q) fun w3 s3 ⟨y, H2, I3, ry, q3⟩ => thn (hop pins s3 σ H2 v y u w3 _ I3 ru ry q3) fun w4 s4 ⟨z, H3, I4, rz, dx', fs', ea', l', q4⟩ => ?_
  exact setattr_ok I4 ea' c n l' rz fun s5 I5 => ⟨σ, _, I5, q4⟩
def gFld2 (C : Addr) (ta : TE) (f : Str) : TG := fun v σ H Q => ta σ H fun x H1 => ∃ a dx fs, x = .ref a ∧ H1 a = some (.ins C dx fs) ∧ fs.length < 1000 ∧ Q σ (upd H1 a (.ins C dx (putF f v fs)))
theorem pg_fld2 (c : Cls X.K C) (n : NoAttr X.K C f) (ho : PE X o ta) : PG X (.Attribute o f pos) (gFld2 C ta f) := by
  refine ⟨fun pins s σ H v u Q I r h => ?_⟩
  rw [assign_Attribute]
  refine wpAny_bind (wpAny_holding (thn (ho.run pins s σ H _ I h) fun ov s1 ⟨x, H1, I1, rx, a, dx, fs, ex, ea, l, q⟩ => ?_))
  subst ex
  obtain rfl : ov = Value.ref a := rx
  refine wpAny_bind (wpAny_standAt (wpAny_bind (wpAny_holding (setattr_ok I1 ea c n l r fun s2 I2 => ?_))))
  exact wpAny_release ⟨σ, _, I2, q⟩
end
/-! walks, the fragment named -/
section
variable {X : Cx} {K : PySem.W.Frag} {tg e : Expr} {tl : TE} {ta : TA}
theorem pi_listK (hK : X.K = K) (h : PE X e tl) : PI X tg e (iList K tl) := hK ▸ pi_list h
theorem pi_tupK (hK : X.K = K) (h : PE X e tl) : PI X tg e (iTup K tl) := hK ▸ pi_tup h
theorem pi_seqK (hK : X.K = K) (h : PE X e tl) : PI X tg e (iOr (iList K tl) (iTup K tl)) := hK ▸ pi_seq h
end
end Nt
set_option maxRecDepth 100000
set_option maxHeartbeats 4000000
namespace PySem
open Sem (wp)
open AutoSeq1 (wpAny_loadPart')
theorem nt_meets_enumerate_newT (l : Addr) (items : Array Value) (n : Nat) (dct : Option Addr) (sl : Array (Option Value)) :
    Meets (Builtin.«enumerate.__new__» ⟨[.type "enumerate", .ref l], []⟩) (fun _ R s => s.heap.get? l = some { cls := .type "tuple", dict := dct, data := .seq items n, slots := sl } ∧
      R (.ok (.ret (.ref (s.heap.push { cls := .type "tuple_iterator", data := .fields #[.ref l, .int 0 0] }).objs.size)))
        { s with heap := (s.heap.push { cls := .type "tuple_iterator", data := .fields #[.ref l, .int 0 0] }).push { cls := .type "enumerate", data := .fields #[.none, .bool false, .ref s.heap.objs.size, rawInt 0, .none, .none] } }) :=
  .of_wp fun prog w A R s h => by
    obtain ⟨hp, g, d, tk, os⟩ := s; obtain ⟨hl, h⟩ := h
    have hsub := sub_enumerate
    have hL : Heap.IsTuple (Shared.heap ⟨hp, g, d, tk, os⟩) l items := ⟨_, hl, rfl, n, rfl⟩
    wp_walk using wpAny_loadPart' hl
    refine wpAny_stack_any fun st => wpAny_pure ?_
    split
    · rename_i c _ _ _ _ _
      cases (c == Value.type "enumerate")
      · wp_walk using wpAny_loadPart' hl, wpAny_pyIter_tuple hL
        exact ⟨_, rfl, h⟩
      · wp_walk using wpAny_loadPart' hl, wpAny_pyIter_tuple hL
        exact ⟨_, rfl, h⟩
    · wp_walk using wpAny_loadPart' hl, wpAny_pyIter_tuple hL
      exact ⟨_, rfl, h⟩
theorem nt_call_enumerate_tuple {prog : Program} {w : World} {A : Around} {E : Value → Shared → Prop} {s : Shared} {l : Addr} {items : Array Value} {Q : Value → Shared → Prop} (hL : s.heap.IsTuple l items)
    (h : ∀ h', IsEnum h' (s.heap.objs.size + 1) s.heap.objs.size 0 .none → h'.IsTupleIter s.heap.objs.size l 0 → h'.objs.size = s.heap.objs.size + 2 →
      (∀ b o, s.heap.get? b = some o → h'.get? b = some o) → Q (.ref (s.heap.objs.size + 1)) { s with heap := h' }) :
    wpAny (model prog w) A (call (.type "enumerate") [.ref l]) Q E s := by
  obtain ⟨⟨c, dct, dt, sl⟩, hl, hc, n, hd⟩ := hL
  replace hc : c = .type "tuple" := hc
  replace hd : dt = .seq items n := hd
  subst hc hd
  refine callType_new F.called_enumerate (by decide) (F.typeCall_enumerate_1 _) (F.newCall_enumerate_1 _) (fun obj => F.args_object_init_2 obj _) F.entry_enumerate_new
    (nt_meets_enumerate_newT l items n dct sl) ⟨hl, ?_⟩
  have hz : (s.heap.push { cls := .type "tuple_iterator", data := .fields #[.ref l, .int 0 0] }).objs.size = s.heap.objs.size + 1 := Heap.size_push ..
  show _ ∧ _
  rw [hz]
  have he : IsEnum ((s.heap.push { cls := .type "tuple_iterator", data := .fields #[.ref l, .int 0 0] }).push
      { cls := .type "enumerate", data := .fields #[.none, .bool false, .ref s.heap.objs.size, rawInt 0, .none, .none] }) (s.heap.objs.size + 1) s.heap.objs.size 0 .none := by
    have := Heap.get?_push_size (s.heap.push { cls := .type "tuple_iterator", data := .fields #[.ref l, .int 0 0] })
      (o := { cls := .type "enumerate", data := .fields #[.none, .bool false, .ref s.heap.objs.size, rawInt 0, .none, .none] }) rfl
    rw [hz] at this; exact this
  refine ⟨⟨_, he, rfl⟩, h _ he ⟨_, Heap.get?_push_of_some _ (Heap.get?_push_size _ rfl), rfl, rfl⟩ (by rw [Heap.size_push, hz]) fun b o x => Heap.get?_push_of_some _ (Heap.get?_push_of_some _ x)⟩
end PySem
namespace Nt
open PySem PySem.Spec PyProof.Rows L2
def IteT (K : PySem.W.Frag) (a : Addr) : It :=
  ⟨fun i H => ∃ (xs : List V) (x : V), SqT K H a xs ∧ xs[i]? = some x, fun i H v H' => ∃ T x, v = .ref T ∧ H T = none ∧ H' = upd H T (.tup [.int (i : Nat), x]) ∧ ∀ xs, SqT K H a xs → xs[i]? = some x, fun i H => ∃ xs : List V, SqT K H a xs ∧ xs.length ≤ i⟩
theorem turn_enumT {P : Program} {w : World} {K : PySem.W.Frag} {elts : List Expr} {kk : Nat} {tpos : Pos} (a e it : Addr) :
    Turn P w K (.Tuple elts kk tpos) (IteT K a) [e, it] e (fun i h => (∃ old, IsEnum h e it ((i : Nat) : Int) old) ∧ h.IsTupleIter it a i ∧ e ≠ it) where
  mem := by simp
  obj := fun i h st b hb => by
    obtain ⟨⟨old, he⟩, ⟨o, ho, hc, hd⟩, _⟩ := st
    have e' : b = e ∨ b = it := by simpa using hb
    rcases e' with z | z
    · rw [z]; exact ⟨_, he, fun v q => nomatch q⟩
    · rw [z]; exact ⟨o, ho, fun v q => by rw [hd] at q; cases q⟩
  keep := fun i h h' st k => let ⟨⟨old, he⟩, hi, hne⟩ := st; ⟨⟨old, k e (by simp) _ he⟩, hi.at fun o q => k it (by simp) o q, hne⟩
  item := by
    intro X hP hw hK hc i pins s σ H E I hf st hg
    subst hP hw hK
    obtain ⟨⟨old, he⟩, hit, hne⟩ := st
    obtain ⟨xs, x, hq, hx⟩ := hg
    obtain ⟨its, rv, p, hz⟩ := I.tuple hq
    obtain ⟨u, hu, ru⟩ := rv.get hx
    have hel : e < s.heap.objs.size := Heap.lt_size he
    have hil : it < s.heap.objs.size := by obtain ⟨_, q, _⟩ := hit; exact Heap.lt_size q
    have hT : s.heap.IsTuple a its.toArray := p
    have hai : a ≠ it := by
      rintro rfl
      obtain ⟨o1, q1, c1, _⟩ := hT
      obtain ⟨o2, q2, c2, _⟩ := hit
      rw [q1] at q2; cases q2; rw [c1] at c2; exact absurd c2 (by decide)
    have hae : e ≠ a := by
      rintro rfl
      obtain ⟨o1, q1, c1, _⟩ := hT
      rw [he] at q1; cases q1; exact absurd (show Value.type "enumerate" = .type "tuple" from c1) (by decide)
    have hh : X.A.in1.handled = none := I.ok.hd hc
    refine wpAny_pyNext_enum_itemD (Draws.tuple (prog := X.prog) (w := X.w) hh it a hai its.toArray) he ⟨hit, hT⟩ (by have := (List.getElem?_eq_some_iff.mp hu).1; simpa using this) hne (by simp [hne, hae]) fun x' h' tk hP ho hit' hTp hsz hk => ?_
    have ex' : x' = u := by
      have hP : its.toArray[i]? = some x' := hP
      rw [show its.toArray[i]? = its[i]? by simp, hu] at hP
      exact (Option.some.inj hP).symm
    subst ex'
    refine ⟨_, rfl, wpAny_letOwnedTupleGo_enum (s := { s with heap := h', toks := tk + 1 }) ho fun h'' he' sb => ?_⟩
    have hT2 : h''.get? s.heap.objs.size = some { cls := .type "tuple", data := .seq #[.int i tk, x'] } := (sb.2 _ (Nat.ne_of_gt hel)).trans hTp
    have new : ObjOk X.prog X.w (upd H s.heap.objs.size (.tup [.int (i : Nat), x])) h'' s.heap.objs.size (.tup [.int (i : Nat), x]) :=
      ⟨by show 2 ≤ sizeLine; decide, [.int i tk, x'], .cons ⟨_, rfl⟩ (.cons ru .nil), ⟨_, hT2, rfl, _, rfl⟩⟩
    have I1 : Inv X pins σ (upd H s.heap.objs.size (.tup [.int (i : Nat), x])) { s with heap := h'', toks := tk + 1 } :=
      I.turnedNew (ch := [e, it]) (fun b ob hb q => (sb.2 b (fun z => hb (by simp [z]))).trans (hk b ob (fun z => hb (by simp [z])) (fun z => hb (by simp [z])) q)) hf (Nat.le_refl _) new
    refine ⟨.ref s.heap.objs.size, _, I1, rfl, ⟨_, x, rfl, I.hok.fresh (Nat.le_refl _), rfl, fun ys hy => by rw [I.tuple_inj hy hq]; exact hx⟩, ⟨⟨x', ?_⟩, hit'.1.at fun o q => (sb.2 it (Ne.symm hne)).trans q, hne⟩, fun b hb => ?_⟩
    · have e1 : ((i + 1 : Nat) : Int) = (i : Int) + 1 := by omega
      rw [e1]; exact he'
    · have hb' : b < s.heap.objs.size := by
        have e' : b = e ∨ b = it := by simpa using hb
        rcases e' with z | z
        · rw [z]; exact hel
        · rw [z]; exact hil
      rw [upd_ne (Nat.ne_of_lt hb')]
      exact (hf b hb).1
  done := by
    intro X hP hw hK hc i pins s σ H E I hf st hg
    subst hP hw hK
    obtain ⟨⟨old, he⟩, hit, hne⟩ := st
    obtain ⟨xs, hq, hx⟩ := hg
    obtain ⟨its, rv, p, hz⟩ := I.tuple hq
    obtain ⟨f0, f1, f2, f3, f4, f5⟩ := hf it (by simp)
    have hl := rv.length
    have hT : s.heap.IsTuple a its.toArray := p
    have hh : X.A.in1.in1.handled = none := I.ok.hd hc
    have hd : ∀ (Q : Value → Shared → Prop) (E : Value → Shared → Prop), (∀ h' e, Heap.ExtBut it s.heap h' → (∃ o, h'.get? e = some o ∧ o.cls = .type "StopIteration") → E (.ref e) { s with heap := h' }) → wpAny (model X.prog X.w) X.A.in1 (Builtin.SmallTypes.nextOf (.ref it)) Q E s :=
      fun Q E k => wpAny_nextOf_tuple_end hh hit hT (by simp; omega) k
    have hTy : s.TypeIs (.ref e) "enumerate" := ⟨_, he, rfl⟩
    unfold pyNext
    refine wpAny_bind (wpAny_attempt (wpAny_callSpecial?_slot (name := Str.ofString "__next__") hTy F.slot_enumerate_next
      (wpAny_call_entry F.slot_enumerate_next hTy F.entry_enumerate_next ?_ (F.args_enumerate_next_1 _))))
    show wpAny _ _ (field (.ref e) 2 >>= _) _ _ _
    refine wpAny_bind (wpAny_field he rfl (x := .ref it) rfl ?_)
    refine wpAny_bind (hd _ _ fun h' x he' hx' => ?_)
    obtain ⟨o, ho, hc'⟩ := hx'
    refine wpAny_bind (wpAny_isInstance (T := "StopIteration") (b := true) ⟨o, ho, hc'⟩ isSubtype_stop ?_)
    exact wpAny_pure ⟨rfl, I.turned (t' := s.toks) (fun b o hb q => he' b o hb q) f0 f1 f3 f4 f5⟩
  self := fun A i s Q E st h => let ⟨⟨_, he⟩, _⟩ := st; wpAny_pyIter_enum he h
def iEnumT (K : PySem.W.Frag) (ta : TA) : TI := fun σ H R => ta σ H fun vs H1 => ∃ a xs, vs = [.ref a] ∧ SqT K H1 a xs ∧ R (IteT K a) H1
theorem pi_enumT {X : Cx} {e : Expr} {ta : TA} {p pos tpos : Pos} {elts : List Expr} {kk : Nat} (hg : Gl X "enumerate") (hm : X.mg "enumerate" = none) (ha : PA X [e] ta) (hs : starEach [e] X.env = [(false, eval e X.env)] := by rfl) :
    PI X (.Tuple elts kk tpos) (.Call (.Name "enumerate" p) [e] [] pos) (iEnumT X.K ta) := by
  refine ⟨fun pins s σ H R I h => ?_⟩
  refine Call_ (ld_blt I hg hm boot_enumerate (PyProof.Rows.callWith_type1 (thn (ha.run pos pins s σ H _ I h) fun us s1 ⟨vs, H1, I1, r1, q1⟩ => ?_) hs rfl))
  obtain ⟨a, xs, ex, hq, q⟩ := q1
  subst ex
  cases r1 with
  | cons r rr =>
    cases rr
    cases r
    obtain ⟨its, rv, p', hz⟩ := I1.tuple hq
    refine nt_call_enumerate_tuple (show s1.heap.IsTuple a its.toArray from p') fun h' he hit hsz hk => wpAny_pyIter_enum he ?_
    have I2 : Inv X pins σ H1 { s1 with heap := h' } := I1.kept (t' := s1.toks) hk
    refine ⟨s1.heap.objs.size + 1, [s1.heap.objs.size + 1, s1.heap.objs.size], _, _, H1, rfl, I2, turn_enumT a (s1.heap.objs.size + 1) s1.heap.objs.size, ⟨⟨.none, he⟩, hit, Nat.succ_ne_self _⟩, fun b hb => ?_, q⟩
    have e' : b = s1.heap.objs.size + 1 ∨ b = s1.heap.objs.size := by simpa using hb
    have hle : s1.heap.objs.size ≤ b := by
      rcases e' with z | z
      · rw [z]; exact Nat.le_add_right _ _
      · rw [z]; exact Nat.le_refl _
    exact I1.fpOk hle (I1.hok.fresh hle)
theorem wkET {α : Type} {K : PySem.W.Frag} {a : Addr} (as : List α) (f : α → V) : Walk (IteT K a) as.zipIdx.length (fun H => SqT K H a (as.map f)) (YP as.zipIdx (fun p => .int (p.2 : Int)) (fun p => f p.1)) := by
  rw [List.length_zipIdx]
  refine ⟨fun i _ hi q => ⟨as.map f, (as.map f)[i]'(by simpa using hi), q, by simp [hi]⟩, fun _ q => ⟨as.map f, q, by simp⟩, fun i H v H' hi q y => ?_⟩
  obtain ⟨T, x, h1, h2, h3, h4⟩ := y
  have e2 := h4 _ q
  have ea : as[i]? = some as[i] := List.getElem?_eq_getElem hi
  rw [List.getElem?_map, ea] at e2
  cases Option.some.inj e2
  refine ⟨T, (as[i], i), h1, h2, h3, ?_⟩
  rw [List.getElem?_zipIdx, ea]
  simp
end Nt
set_option maxRecDepth 100000
set_option maxHeartbeats 2000000
/-! NtS: == of lists and tuples. -/
namespace Nt
open PySem PySem.Spec PyProof.Rows L2
/-- an item: an int, a truth value, a tuple of ints -/
def Dd (H : Hp) (v : V) : Prop := (∃ i, v = .int i) ∨ (∃ b, v = .bl b) ∨ (∃ (a : Addr) (ns : List Int), v = .ref a ∧ H a = some (.tup (ns.map V.int)))
def dT (ns : List Int) : PyData := .tuple (ns.map PyData.int)
theorem lay_ints : ∀ ns : List Int, PyData.canLayAll0 (ns.map PyData.int) = true
  | [] => by simp [PyData.canLayAll0]
  | n :: ns => by simp [PyData.canLayAll0, PyData.canLay0, lay_ints ns]
theorem dep_ints : ∀ ns : List Int, PyData.depthAll (ns.map PyData.int) = 0
  | [] => by simp [PyData.depthAll]
  | n :: ns => by simp [PyData.depthAll, PyData.depth, dep_ints ns]
theorem dp_ints {K : PySem.W.Frag} {H : Hp} : ∀ ns : List Int, DpAll K H (ns.map V.int) (ns.map PyData.int)
  | [] => .nil
  | n :: ns => .cons (.int n) (dp_ints ns)
theorem eqv_ints : ∀ ns ms : List Int, PyData.eqvAll (ns.map PyData.int) (ms.map PyData.int) = decide (ns = ms)
  | [], [] => by simp [PyData.eqvAll]
  | [], m :: ms => by simp [PyData.eqvAll]
  | n :: ns, [] => by simp [PyData.eqvAll]
  | n :: ns, m :: ms => by
    simp only [List.map_cons, PyData.eqvAll, PyData.eqv, eqv_ints ns ms]
    by_cases h : n = m
    · subst h; simp
    · simp [h]
theorem dT_shaped (ns : List Int) : SeqAt.shaped (dT ns) = true := by
  unfold SeqAt.shaped dT
  simp only [PyData.canLay0, PyData.depth, lay_ints, dep_ints]
  decide
theorem dT_dp {K : PySem.W.Frag} {H : Hp} {a : Addr} {ns : List Int} (h : H a = some (.tup (ns.map V.int))) : Dp K H (.ref a) (dT ns) := .tup (SqT.of h) (dp_ints ns)
theorem dd_data {K : PySem.W.Frag} {H : Hp} {v : V} (h : Dd H v) : ∃ d, Dp K H v d ∧ d.canLay0 = true ∧ d.depth ≤ 1 := by
  rcases h with ⟨i, rfl⟩ | ⟨b, rfl⟩ | ⟨a, ns, rfl, h⟩
  · exact ⟨_, .int i, by simp [PyData.canLay0], by simp [PyData.depth]⟩
  · exact ⟨_, .bl b, by simp [PyData.canLay0], by simp [PyData.depth]⟩
  · refine ⟨_, dT_dp h, ?_, ?_⟩
    · simp only [dT, PyData.canLay0, lay_ints]
    · simp only [dT, PyData.depth, dep_ints]; decide
theorem dd_all {K : PySem.W.Frag} {H : Hp} : ∀ {vs : List V}, (∀ v ∈ vs, Dd H v) → ∃ ds, DpAll K H vs ds ∧ PyData.canLayAll0 ds = true ∧ PyData.depthAll ds ≤ 1 ∧ ds.length = vs.length
  | [], _ => ⟨[], .nil, by simp [PyData.canLayAll0], by simp [PyData.depthAll], rfl⟩
  | v :: vs, h => by
    obtain ⟨d, h1, h2, h3⟩ := dd_data (K := K) (h v List.mem_cons_self)
    obtain ⟨ds, k1, k2, k3, k4⟩ := dd_all (K := K) fun u hu => h u (List.mem_cons_of_mem _ hu)
    refine ⟨d :: ds, .cons h1 k1, by simp [PyData.canLayAll0, h2, k2], ?_, by simp [k4]⟩
    simp only [PyData.depthAll]; omega
section
variable {X : Cx}
def rEqT : R2 := fun x y H Q => ∃ (a b : Addr) (ns ms : List Int), x = .ref a ∧ y = .ref b ∧ H a = some (.tup (ns.map V.int)) ∧ H b = some (.tup (ms.map V.int)) ∧ Q (.bl (decide (ns = ms))) H
def rNeT : R2 := fun x y H Q => ∃ (a b : Addr) (ns ms : List Int), x = .ref a ∧ y = .ref b ∧ H a = some (.tup (ns.map V.int)) ∧ H b = some (.tup (ms.map V.int)) ∧ Q (.bl (!decide (ns = ms))) H
theorem op_eqT (hu : X.A.units + 64 < cLine) : OpR X (compareOp .Eq) rEqT := by
  rintro pins s σ H x y v u Q I rx ry ⟨a, b, ns, ms, rfl, rfl, h1, h2, q⟩
  refine op_eqD hu pins s σ H _ _ v u Q I rx ry ⟨_, _, dT_dp h1, dT_dp h2, dT_shaped _, dT_shaped _, ?_⟩
  have e : PyData.eqv (dT ns) (dT ms) = decide (ns = ms) := by simp only [dT, PyData.eqv, eqv_ints]
  rw [e]; exact q
theorem op_neT (hu : X.A.units + 64 < cLine) : OpR X (compareOp .NotEq) rNeT := by
  rintro pins s σ H x y v u Q I rx ry ⟨a, b, ns, ms, rfl, rfl, h1, h2, q⟩
  refine op_neD hu pins s σ H _ _ v u Q I rx ry ⟨_, _, dT_dp h1, dT_dp h2, dT_shaped _, dT_shaped _, ?_⟩
  have e : PyData.eqv (dT ns) (dT ms) = decide (ns = ms) := by simp only [dT, PyData.eqv, eqv_ints]
  rw [e]; exact q
/-- against the empty one -/
def rEqE : R2 := fun x y H Q => ∃ (a b : Addr) (xs : List V), x = .ref a ∧ y = .ref b ∧ ((H a = some (.lst xs) ∧ H b = some (.lst [])) ∨ (H a = some (.tup xs) ∧ H b = some (.tup []))) ∧ (∀ v ∈ xs, Dd H v) ∧ Q (.bl xs.isEmpty) H
def rNeE : R2 := fun x y H Q => ∃ (a b : Addr) (xs : List V), x = .ref a ∧ y = .ref b ∧ ((H a = some (.lst xs) ∧ H b = some (.lst [])) ∨ (H a = some (.tup xs) ∧ H b = some (.tup []))) ∧ (∀ v ∈ xs, Dd H v) ∧ Q (.bl (!xs.isEmpty)) H
theorem eqvAll_nil (ds : List PyData) : PyData.eqvAll ds [] = ds.isEmpty := by
  cases ds with
  | nil => simp [PyData.eqvAll]
  | cons d ds => simp [PyData.eqvAll]
theorem shaped_seq {ds : List PyData} (h1 : PyData.canLayAll0 ds = true) (h2 : PyData.depthAll ds ≤ 1) : SeqAt.shaped (.list ds) = true ∧ SeqAt.shaped (.tuple ds) = true := by
  unfold SeqAt.shaped
  simp only [PyData.canLay0, PyData.depth, h1, Bool.true_and]
  exact ⟨decide_eq_true (by omega), decide_eq_true (by omega)⟩
theorem isE {α β : Type} {xs : List α} {ys : List β} (h : xs.length = ys.length) : xs.isEmpty = ys.isEmpty := by
  cases xs <;> cases ys <;> simp at h ⊢
theorem op_eqE (hu : X.A.units + 64 < cLine) : OpR X (compareOp .Eq) rEqE := by
  rintro pins s σ H x y v u Q I rx ry ⟨a, b, xs, rfl, rfl, h, hx, q⟩
  obtain ⟨ds, k1, k2, k3, k4⟩ := dd_all (K := X.K) hx
  obtain ⟨z1, z2⟩ := shaped_seq k2 k3
  have e := isE k4
  rcases h with ⟨h1, h2⟩ | ⟨h1, h2⟩
  · refine op_eqD hu pins s σ H _ _ v u Q I rx ry ⟨.list ds, .list [], .lst (SqL.of h1) k1, .lst (SqL.of h2) .nil, z1, by decide, ?_⟩
    simp only [PyData.eqv, eqvAll_nil, e]; exact q
  · refine op_eqD hu pins s σ H _ _ v u Q I rx ry ⟨.tuple ds, .tuple [], .tup (SqT.of h1) k1, .tup (SqT.of h2) .nil, z2, by decide, ?_⟩
    simp only [PyData.eqv, eqvAll_nil, e]; exact q
theorem op_neE (hu : X.A.units + 64 < cLine) : OpR X (compareOp .NotEq) rNeE := by
  rintro pins s σ H x y v u Q I rx ry ⟨a, b, xs, rfl, rfl, h, hx, q⟩
  obtain ⟨ds, k1, k2, k3, k4⟩ := dd_all (K := X.K) hx
  obtain ⟨z1, z2⟩ := shaped_seq k2 k3
  have e := isE k4
  rcases h with ⟨h1, h2⟩ | ⟨h1, h2⟩
  · refine op_neD hu pins s σ H _ _ v u Q I rx ry ⟨.list ds, .list [], .lst (SqL.of h1) k1, .lst (SqL.of h2) .nil, z1, by decide, ?_⟩
    simp only [PyData.eqv, eqvAll_nil, e]; exact q
  · refine op_neD hu pins s σ H _ _ v u Q I rx ry ⟨.tuple ds, .tuple [], .tup (SqT.of h1) k1, .tup (SqT.of h2) .nil, z2, by decide, ?_⟩
    simp only [PyData.eqv, eqvAll_nil, e]; exact q
theorem dd_ints {H : Hp} (ns : List Int) : ∀ v ∈ ns.map V.int, Dd H v := by
  intro v hv
  obtain ⟨i, _, rfl⟩ := List.mem_map.mp hv
  exact .inl ⟨i, rfl⟩
theorem dd_cls {H : Hp} {as : List Cl} (h : CLs H as) : ∀ v ∈ as.map rf, Dd H v := by
  intro v hv
  obtain ⟨x, hx, rfl⟩ := List.mem_map.mp hv
  exact .inr (.inr ⟨_, _, rfl, h x hx⟩)
/-- None, or a list, against [] -/
def rEqO : R2 := fun x y H Q => ∃ b, y = .ref b ∧ H b = some (.lst []) ∧ ((x = .non ∧ Q (.bl false) H) ∨ ∃ (a : Addr) (xs : List V), x = .ref a ∧ H a = some (.lst xs) ∧ (∀ v ∈ xs, Dd H v) ∧ Q (.bl xs.isEmpty) H)
theorem op_eqO (hu : X.A.units + 64 < cLine) : OpR X (compareOp .Eq) rEqO := by
  rintro pins s σ H x y v u Q I rx ry ⟨b, rfl, h2, ⟨rfl, q⟩ | ⟨a, xs, rfl, h1, hx, q⟩⟩
  · refine op_eqD hu pins s σ H _ _ v u Q I rx ry ⟨.none, .list [], .non, .lst (SqL.of h2) .nil, by decide, by decide, ?_⟩
    simp only [PyData.eqv]; exact q
  · exact op_eqE hu pins s σ H _ _ v u Q I rx ry ⟨a, b, xs, rfl, rfl, .inl ⟨h1, h2⟩, hx, q⟩
end
end Nt
set_option maxRecDepth 100000
set_option maxHeartbeats 1000000
/-! NtD: the text's defs by places, the facts of the top that the walks lean on. -/
namespace Nt
open PySem PySem.Spec PyProof.Rows L2
def top (i : Nat) : Stmt := PySem.Challenge.pw_nosuchthings_k03_whole_one_bundle_or_the.main.body.getD i (.Pass ⟨0, 0, 0, 0⟩)
abbrev s_is_integer : Stmt := top 7
def d_is_integer : He.DefD := ⟨("is_integer", none), "is_integer", "is_integer", defArgs s_is_integer, defBody s_is_integer, defScope s_is_integer, [], []⟩
abbrev s_is_between : Stmt := top 8
def d_is_between : He.DefD := ⟨("is_between", none), "is_between", "is_between", defArgs s_is_between, defBody s_is_between, defScope s_is_between, [], []⟩
abbrev s_is_ascending : Stmt := top 9
def d_is_ascending : He.DefD := ⟨("is_ascending", none), "is_ascending", "is_ascending", defArgs s_is_ascending, defBody s_is_ascending, defScope s_is_ascending, [], []⟩
abbrev s_is_clause : Stmt := top 13
def d_is_clause : He.DefD := ⟨("is_clause", none), "is_clause", "is_clause", defArgs s_is_clause, defBody s_is_clause, defScope s_is_clause, [], []⟩
abbrev s_is_bundle : Stmt := top 14
def d_is_bundle : He.DefD := ⟨("is_bundle", none), "is_bundle", "is_bundle", defArgs s_is_bundle, defBody s_is_bundle, defScope s_is_bundle, [], []⟩
abbrev s_check_bundle : Stmt := top 15
def d_check_bundle : He.DefD := ⟨("check_bundle", none), "check_bundle", "check_bundle", defArgs s_check_bundle, defBody s_check_bundle, defScope s_check_bundle, [], []⟩
abbrev s_are_values_of : Stmt := top 16
def d_are_values_of : He.DefD := ⟨("are_values_of", none), "are_values_of", "are_values_of", defArgs s_are_values_of, defBody s_are_values_of, defScope s_are_values_of, [], []⟩
abbrev s_do_hold : Stmt := top 17
def d_do_hold : He.DefD := ⟨("do_hold", none), "do_hold", "do_hold", defArgs s_do_hold, defBody s_do_hold, defScope s_do_hold, [], []⟩
abbrev s_Units_init : Stmt := inClass (top 18) 0
def d_Units_init : He.DefD := ⟨("Units", some "__init__"), "__init__", "Units.__init__", defArgs s_Units_init, defBody s_Units_init, defScope s_Units_init, [], []⟩
abbrev s_Units_put : Stmt := inClass (top 18) 1
def d_Units_put : He.DefD := ⟨("Units", some "put"), "put", "Units.put", defArgs s_Units_put, defBody s_Units_put, defScope s_Units_put, [], []⟩
abbrev s_Units_run : Stmt := inClass (top 18) 2
def d_Units_run : He.DefD := ⟨("Units", some "run"), "run", "Units.run", defArgs s_Units_run, defBody s_Units_run, defScope s_Units_run, [], []⟩
abbrev s_Units_left_of : Stmt := inClass (top 18) 3
def d_Units_left_of : He.DefD := ⟨("Units", some "left_of"), "left_of", "Units.left_of", defArgs s_Units_left_of, defBody s_Units_left_of, defScope s_Units_left_of, [], []⟩
abbrev s_is_given : Stmt := top 19
def d_is_given : He.DefD := ⟨("is_given", none), "is_given", "is_given", defArgs s_is_given, defBody s_is_given, defScope s_is_given, [], []⟩
abbrev s_units_told : Stmt := top 20
def d_units_told : He.DefD := ⟨("units_told", none), "units_told", "units_told", defArgs s_units_told, defBody s_units_told, defScope s_units_told, [], []⟩
abbrev s_Search_init : Stmt := inClass (top 24) 0
def d_Search_init : He.DefD := ⟨("Search", some "__init__"), "__init__", "Search.__init__", defArgs s_Search_init, defBody s_Search_init, defScope s_Search_init, [], []⟩
abbrev s_Search_put : Stmt := inClass (top 24) 1
def d_Search_put : He.DefD := ⟨("Search", some "put"), "put", "Search.put", defArgs s_Search_put, defBody s_Search_put, defScope s_Search_put, [], []⟩
abbrev s_Search_look : Stmt := inClass (top 24) 2
def d_Search_look : He.DefD := ⟨("Search", some "look"), "look", "Search.look", defArgs s_Search_look, defBody s_Search_look, defScope s_Search_look, [], []⟩
abbrev s_Search_make : Stmt := inClass (top 24) 3
def d_Search_make : He.DefD := ⟨("Search", some "make"), "make", "Search.make", defArgs s_Search_make, defBody s_Search_make, defScope s_Search_make, [], []⟩
abbrev s_Search_spread : Stmt := inClass (top 24) 4
def d_Search_spread : He.DefD := ⟨("Search", some "spread"), "spread", "Search.spread", defArgs s_Search_spread, defBody s_Search_spread, defScope s_Search_spread, [], []⟩
abbrev s_Search_decide : Stmt := inClass (top 24) 5
def d_Search_decide : He.DefD := ⟨("Search", some "decide"), "decide", "Search.decide", defArgs s_Search_decide, defBody s_Search_decide, defScope s_Search_decide, [], []⟩
abbrev s_Search_choose : Stmt := inClass (top 24) 6
def d_Search_choose : He.DefD := ⟨("Search", some "choose"), "choose", "Search.choose", defArgs s_Search_choose, defBody s_Search_choose, defScope s_Search_choose, [], []⟩
abbrev s_Search_back_to : Stmt := inClass (top 24) 7
def d_Search_back_to : He.DefD := ⟨("Search", some "back_to"), "back_to", "Search.back_to", defArgs s_Search_back_to, defBody s_Search_back_to, defScope s_Search_back_to, [], []⟩
abbrev s_Search_learn : Stmt := inClass (top 24) 8
def d_Search_learn : He.DefD := ⟨("Search", some "learn"), "learn", "Search.learn", defArgs s_Search_learn, defBody s_Search_learn, defScope s_Search_learn, [], []⟩
abbrev s_Search_mend : Stmt := inClass (top 24) 9
def d_Search_mend : He.DefD := ⟨("Search", some "mend"), "mend", "Search.mend", defArgs s_Search_mend, defBody s_Search_mend, defScope s_Search_mend, [], []⟩
abbrev s_Search_solve : Stmt := inClass (top 24) 10
def d_Search_solve : He.DefD := ⟨("Search", some "solve"), "solve", "Search.solve", defArgs s_Search_solve, defBody s_Search_solve, defScope s_Search_solve, [], []⟩
abbrev s_Search_more : Stmt := inClass (top 24) 11
def d_Search_more : He.DefD := ⟨("Search", some "more"), "more", "Search.more", defArgs s_Search_more, defBody s_Search_more, defScope s_Search_more, [], []⟩
abbrev s_solve : Stmt := top 25
def d_solve : He.DefD := ⟨("solve", none), "solve", "solve", defArgs s_solve, defBody s_solve, defScope s_solve, [], []⟩
abbrev s_solve_up : Stmt := top 26
def d_solve_up : He.DefD := ⟨("solve_up", none), "solve_up", "solve_up", defArgs s_solve_up, defBody s_solve_up, defScope s_solve_up, [], []⟩
abbrev s_can_hold : Stmt := top 27
def d_can_hold : He.DefD := ⟨("can_hold", none), "can_hold", "can_hold", defArgs s_can_hold, defBody s_can_hold, defScope s_can_hold, [], []⟩
abbrev s_is_by_units : Stmt := top 30
def d_is_by_units : He.DefD := ⟨("is_by_units", none), "is_by_units", "is_by_units", defArgs s_is_by_units, defBody s_is_by_units, defScope s_is_by_units, [], []⟩
abbrev s_are_steps : Stmt := top 31
def d_are_steps : He.DefD := ⟨("are_steps", none), "are_steps", "are_steps", defArgs s_are_steps, defBody s_are_steps, defScope s_are_steps, [], []⟩
abbrev s_is_paper_of : Stmt := top 32
def d_is_paper_of : He.DefD := ⟨("is_paper_of", none), "is_paper_of", "is_paper_of", defArgs s_is_paper_of, defBody s_is_paper_of, defScope s_is_paper_of, [], []⟩
abbrev s_is_paper : Stmt := top 33
def d_is_paper : He.DefD := ⟨("is_paper", none), "is_paper", "is_paper", defArgs s_is_paper, defBody s_is_paper, defScope s_is_paper, [], []⟩
abbrev s_solve_told : Stmt := top 34
def d_solve_told : He.DefD := ⟨("solve_told", none), "solve_told", "solve_told", defArgs s_solve_told, defBody s_solve_told, defScope s_solve_told, [], []⟩
abbrev s_is_solved : Stmt := top 35
def d_is_solved : He.DefD := ⟨("is_solved", none), "is_solved", "is_solved", defArgs s_is_solved, defBody s_is_solved, defScope s_is_solved, [], []⟩
abbrev s_shows_solved : Stmt := top 36
def d_shows_solved : He.DefD := ⟨("shows_solved", none), "shows_solved", "shows_solved", defArgs s_shows_solved, defBody s_shows_solved, defScope s_shows_solved, [], []⟩
abbrev s_doubled : Stmt := top 37
def d_doubled : He.DefD := ⟨("doubled", none), "doubled", "doubled", defArgs s_doubled, defBody s_doubled, defScope s_doubled, [], []⟩
abbrev s_first_open : Stmt := top 38
def d_first_open : He.DefD := ⟨("first_open", none), "first_open", "first_open", defArgs s_first_open, defBody s_first_open, defScope s_first_open, [], []⟩
abbrev s_turn : Stmt := top 39
def d_turn : He.DefD := ⟨("turn", none), "turn", "turn", defArgs s_turn, defBody s_turn, defScope s_turn, [], []⟩
abbrev s_count_by : Stmt := top 40
def d_count_by : He.DefD := ⟨("count_by", none), "count_by", "count_by", defArgs s_count_by, defBody s_count_by, defScope s_count_by, [], []⟩
abbrev s_groups_of : Stmt := top 41
def d_groups_of : He.DefD := ⟨("groups_of", none), "groups_of", "groups_of", defArgs s_groups_of, defBody s_groups_of, defScope s_groups_of, [], []⟩
abbrev s_head_of : Stmt := top 42
def d_head_of : He.DefD := ⟨("head_of", none), "head_of", "head_of", defArgs s_head_of, defBody s_head_of, defScope s_head_of, [], []⟩
abbrev s_renamed_clauses : Stmt := top 43
def d_renamed_clauses : He.DefD := ⟨("renamed_clauses", none), "renamed_clauses", "renamed_clauses", defArgs s_renamed_clauses, defBody s_renamed_clauses, defScope s_renamed_clauses, [], []⟩
abbrev s_count_whole : Stmt := top 44
def d_count_whole : He.DefD := ⟨("count_whole", none), "count_whole", "count_whole", defArgs s_count_whole, defBody s_count_whole, defScope s_count_whole, [], []⟩
abbrev s_count_values : Stmt := top 45
def d_count_values : He.DefD := ⟨("count_values", none), "count_values", "count_values", defArgs s_count_values, defBody s_count_values, defScope s_count_values, [], []⟩
abbrev s_sure_of : Stmt := top 46
def d_sure_of : He.DefD := ⟨("sure_of", none), "sure_of", "sure_of", defArgs s_sure_of, defBody s_sure_of, defScope s_sure_of, [], []⟩
abbrev s_sure_literals : Stmt := top 47
def d_sure_literals : He.DefD := ⟨("sure_literals", none), "sure_literals", "sure_literals", defArgs s_sure_literals, defBody s_sure_literals, defScope s_sure_literals, [], []⟩
abbrev s_contrary : Stmt := top 49
def d_contrary : He.DefD := ⟨("contrary", none), "contrary", "contrary", defArgs s_contrary, defBody s_contrary, defScope s_contrary, [], []⟩
abbrev s_met_by : Stmt := top 50
def d_met_by : He.DefD := ⟨("met_by", none), "met_by", "met_by", defArgs s_met_by, defBody s_met_by, defScope s_met_by, [], []⟩
abbrev s_Traced_trace : Stmt := inClass (top 51) 0
def d_Traced_trace : He.DefD := ⟨("Traced", some "trace"), "trace", "Traced.trace", defArgs s_Traced_trace, defBody s_Traced_trace, defScope s_Traced_trace, [], []⟩
abbrev s_Traced_init : Stmt := inClass (top 18) 0
def d_Traced_init : He.DefD := ⟨("Traced", some "__init__"), "__init__", "Units.__init__", defArgs s_Traced_init, defBody s_Traced_init, defScope s_Traced_init, [], []⟩
abbrev s_Traced_put : Stmt := inClass (top 18) 1
def d_Traced_put : He.DefD := ⟨("Traced", some "put"), "put", "Units.put", defArgs s_Traced_put, defBody s_Traced_put, defScope s_Traced_put, [], []⟩
abbrev s_Traced_run : Stmt := inClass (top 18) 2
def d_Traced_run : He.DefD := ⟨("Traced", some "run"), "run", "Units.run", defArgs s_Traced_run, defBody s_Traced_run, defScope s_Traced_run, [], []⟩
abbrev s_Traced_left_of : Stmt := inClass (top 18) 3
def d_Traced_left_of : He.DefD := ⟨("Traced", some "left_of"), "left_of", "Units.left_of", defArgs s_Traced_left_of, defBody s_Traced_left_of, defScope s_Traced_left_of, [], []⟩
abbrev s_is_trivial : Stmt := top 52
def d_is_trivial : He.DefD := ⟨("is_trivial", none), "is_trivial", "is_trivial", defArgs s_is_trivial, defBody s_is_trivial, defScope s_is_trivial, [], []⟩
abbrev s_chain_for : Stmt := top 53
def d_chain_for : He.DefD := ⟨("chain_for", none), "chain_for", "chain_for", defArgs s_chain_for, defBody s_chain_for, defScope s_chain_for, [], []⟩
abbrev s_chained_of : Stmt := top 54
def d_chained_of : He.DefD := ⟨("chained_of", none), "chained_of", "chained_of", defArgs s_chained_of, defBody s_chained_of, defScope s_chained_of, [], []⟩
abbrev s_chained : Stmt := top 55
def d_chained : He.DefD := ⟨("chained", none), "chained", "chained", defArgs s_chained, defBody s_chained, defScope s_chained, [], []⟩
abbrev s_got_by : Stmt := top 56
def d_got_by : He.DefD := ⟨("got_by", none), "got_by", "got_by", defArgs s_got_by, defBody s_got_by, defScope s_got_by, [], []⟩
abbrev s_is_link : Stmt := top 57
def d_is_link : He.DefD := ⟨("is_link", none), "is_link", "is_link", defArgs s_is_link, defBody s_is_link, defScope s_is_link, [], []⟩
abbrev s_is_chain_of : Stmt := top 58
def d_is_chain_of : He.DefD := ⟨("is_chain_of", none), "is_chain_of", "is_chain_of", defArgs s_is_chain_of, defBody s_is_chain_of, defScope s_is_chain_of, [], []⟩
abbrev s_is_chain : Stmt := top 59
def d_is_chain : He.DefD := ⟨("is_chain", none), "is_chain", "is_chain", defArgs s_is_chain, defBody s_is_chain, defScope s_is_chain, [], []⟩
abbrev s_law_pot : Stmt := top 61
def d_law_pot : He.DefD := ⟨("_law_pot", none), "_law_pot", "_law_pot", defArgs s_law_pot, defBody s_law_pot, defScope s_law_pot, [], []⟩
abbrev s_law_take : Stmt := top 62
def d_law_take : He.DefD := ⟨("_law_take", none), "_law_take", "_law_take", defArgs s_law_take, defBody s_law_take, defScope s_law_take, [], []⟩
abbrev s_law_of : Stmt := top 63
def d_law_of : He.DefD := ⟨("_law_of", none), "_law_of", "_law_of", defArgs s_law_of, defBody s_law_of, defScope s_law_of, [], []⟩
abbrev s_law_some : Stmt := top 64
def d_law_some : He.DefD := ⟨("_law_some", none), "_law_some", "_law_some", defArgs s_law_some, defBody s_law_some, defScope s_law_some, [], []⟩
abbrev s_law_cells : Stmt := top 65
def d_law_cells : He.DefD := ⟨("_law_cells", none), "_law_cells", "_law_cells", defArgs s_law_cells, defBody s_law_cells, defScope s_law_cells, [], []⟩
abbrev s_law_rows : Stmt := top 66
def d_law_rows : He.DefD := ⟨("_law_rows", none), "_law_rows", "_law_rows", defArgs s_law_rows, defBody s_law_rows, defScope s_law_rows, [], []⟩
abbrev s_law_all_hold : Stmt := top 67
def d_law_all_hold : He.DefD := ⟨("_law_all_hold", none), "_law_all_hold", "_law_all_hold", defArgs s_law_all_hold, defBody s_law_all_hold, defScope s_law_all_hold, [], []⟩
abbrev s_law_clauses : Stmt := top 68
def d_law_clauses : He.DefD := ⟨("_law_clauses", none), "_law_clauses", "_law_clauses", defArgs s_law_clauses, defBody s_law_clauses, defScope s_law_clauses, [], []⟩
abbrev s_law_with : Stmt := top 69
def d_law_with : He.DefD := ⟨("_law_with", none), "_law_with", "_law_with", defArgs s_law_with, defBody s_law_with, defScope s_law_with, [], []⟩
abbrev s_law_is_paper_right : Stmt := top 70
def d_law_is_paper_right : He.DefD := ⟨("_law_is_paper_right", none), "_law_is_paper_right", "_law_is_paper_right", defArgs s_law_is_paper_right, defBody s_law_is_paper_right, defScope s_law_is_paper_right, [], []⟩
abbrev s_law_right : Stmt := top 71
def d_law_right : He.DefD := ⟨("_law_right", none), "_law_right", "_law_right", defArgs s_law_right, defBody s_law_right, defScope s_law_right, [], []⟩
abbrev s_law : Stmt := top 72
def d_law : He.DefD := ⟨("law", none), "law", "law", defArgs s_law, defBody s_law, defScope s_law, [], []⟩
def fn0 : List He.DefD := [d_is_integer, d_is_between, d_is_ascending, d_is_clause, d_is_bundle, d_check_bundle, d_are_values_of, d_do_hold, d_Units_init, d_Units_put, d_Units_run, d_Units_left_of, d_is_given, d_units_told, d_Search_init, d_Search_put, d_Search_look, d_Search_make, d_Search_spread, d_Search_decide, d_Search_choose, d_Search_back_to, d_Search_learn, d_Search_mend, d_Search_solve, d_Search_more, d_solve, d_solve_up, d_can_hold, d_is_by_units]
def fn1 : List He.DefD := [d_are_steps, d_is_paper_of, d_is_paper, d_solve_told, d_is_solved, d_shows_solved, d_doubled, d_first_open, d_turn, d_count_by, d_groups_of, d_head_of, d_renamed_clauses, d_count_whole, d_count_values, d_sure_of, d_sure_literals, d_contrary, d_met_by, d_Traced_trace, d_Traced_init, d_Traced_put, d_Traced_run, d_Traced_left_of, d_is_trivial, d_chain_for, d_chained_of, d_chained, d_got_by, d_is_link]
def fn2 : List He.DefD := [d_is_chain_of, d_is_chain, d_law_pot, d_law_take, d_law_of, d_law_some, d_law_cells, d_law_rows, d_law_all_hold, d_law_clauses, d_law_with, d_law_is_paper_right, d_law_right, d_law]
def fn : List He.DefD := fn0 ++ fn1 ++ fn2
def fa0 : List He.Fa := [.glo "is_integer", .glo "is_between", .glo "is_ascending", .glo "is_clause", .glo "is_bundle", .glo "check_bundle", .glo "are_values_of", .glo "do_hold", .glo "is_given", .glo "units_told", .glo "solve", .glo "solve_up", .glo "can_hold", .glo "is_by_units", .glo "are_steps", .glo "is_paper_of", .glo "is_paper", .glo "solve_told", .glo "is_solved", .glo "shows_solved", .glo "doubled", .glo "first_open", .glo "turn", .glo "count_by", .glo "groups_of", .glo "head_of", .glo "renamed_clauses", .glo "count_whole", .glo "count_values", .glo "sure_of"]
def fa1 : List He.Fa := [.glo "sure_literals", .glo "contrary", .glo "met_by", .glo "is_trivial", .glo "chain_for", .glo "chained_of", .glo "chained", .glo "got_by", .glo "is_link", .glo "is_chain_of", .glo "is_chain", .glo "_law_pot", .glo "_law_take", .glo "_law_of", .glo "_law_some", .glo "_law_cells", .glo "_law_rows", .glo "_law_all_hold", .glo "_law_clauses", .glo "_law_with", .glo "_law_is_paper_right", .glo "_law_right", .glo "law", .free "ValueError", .free "abs", .free "all", .free "any", .free "bool", .free "dict", .free "enumerate"]
def fa2 : List He.Fa := [.free "int", .free "isinstance", .free "len", .free "list", .free "max", .free "min", .free "range", .free "repr", .free "set", .free "sorted", .free "str", .free "sum", .free "super", .free "tuple", .free "zip", .int "MOST_NUMBERS" 6000, .int "MOST_CLAUSES" 30000, .str "VALUES" "values", .str "PAPER" "paper", .int "MOST_COUNT" 4000, .cls "Units", .glo "Units", .mkr "Units", .meth "Units" "put", .meth "Units" "run", .meth "Units" "left_of", .noat "Units" "by", .noat "Units" "clauses", .noat "Units" "single", .cls "Search"]
def fa3 : List He.Fa := [.glo "Search", .mkr "Search", .meth "Search" "put", .meth "Search" "look", .meth "Search" "make", .meth "Search" "spread", .meth "Search" "decide", .meth "Search" "choose", .meth "Search" "back_to", .meth "Search" "learn", .meth "Search" "mend", .meth "Search" "solve", .meth "Search" "more", .noat "Search" "at", .noat "Search" "by", .noat "Search" "clash", .noat "Search" "clauses", .noat "Search" "learnt", .noat "Search" "level", .noat "Search" "low", .noat "Search" "many", .noat "Search" "marks", .noat "Search" "reason", .noat "Search" "sure", .noat "Search" "trail", .noat "Search" "up", .cls "Traced", .glo "Traced", .mkr "Traced", .meth "Traced" "trace"]
def fa4 : List He.Fa := [.meth "Traced" "put", .meth "Traced" "run", .meth "Traced" "left_of", .noat "Traced" "by", .noat "Traced" "clauses", .noat "Traced" "single"]
def fa : List He.Fa := fa0 ++ fa1 ++ fa2 ++ fa3 ++ fa4

/-- what the walks lean on -/
structure Tx (K : PySem.W.Frag) (mg : Str → Option Value) : Prop where
  says : He.SaysD fa fn K
  at_ : ∃ h : Heap, K.In h ∧ h.Ns mainGlobals mg
section
variable {K : PySem.W.Frag} {mg : Str → Option Value}
theorem Tx.free (T : Tx K mg) (i : Nat) {x : Str} (h : fa[i]? = some (.free x) := by rfl) : mg x = none := by
  obtain ⟨h0, X, G⟩ := T.at_
  exact He.free_ok X G (T.says.fact i h)
theorem Tx.glo (T : Tx K mg) (i : Nat) {x : Str} (h : fa[i]? = some (.glo x) := by rfl) : mg x = some (.ref (He.ga K x)) := by
  obtain ⟨h0, X, G⟩ := T.at_
  exact He.glo_ok X G (T.says.fact i h)
theorem Tx.int (T : Tx K mg) (n : Nat) {x : Str} {i : Int} (h : fa[n]? = some (.int x i) := by rfl) : ∃ t, mg x = some (.int i t) := by
  obtain ⟨h0, X, G⟩ := T.at_
  exact He.int_ok X G (T.says.fact n h)
theorem Tx.str (T : Tx K mg) (n : Nat) {x z : Str} (h : fa[n]? = some (.str x z) := by rfl) : ∃ t, mg x = some (.str z t) := by
  obtain ⟨h0, X, G⟩ := T.at_
  exact He.str_ok X G (T.says.fact n h)
theorem Tx.cls (T : Tx K mg) (i : Nat) {x : Str} (h : fa[i]? = some (.cls x) := by rfl) : Cls K (He.ga K x) := He.cls_ok (T.says.fact i h)
theorem Tx.noat (T : Tx K mg) (i : Nat) {x f : Str} (h : fa[i]? = some (.noat x f) := by rfl) : NoAttr K (He.ga K x) f := He.noat_ok (T.says.fact i h)
theorem Tx.meth (T : Tx K mg) (i : Nat) {x m : Str} (h : fa[i]? = some (.meth x m) := by rfl) : Meth K (He.ga K x) m (He.ma K (He.ga K x) m) := He.meth_ok (T.says.fact i h)
theorem Tx.mkr (T : Tx K mg) (i : Nat) {x : Str} (h : fa[i]? = some (.mkr x) := by rfl) : Mk K (He.ga K x) (He.ma K (He.ga K x) "__init__") := He.mkr_ok (T.says.fact i h)
end
/-- the def at a place keeps its promise -/
def CalF (P : Program) (w : World) (K : PySem.W.Frag) (mg : Str → Option Value) (base : Heap) (p : Str × Option Str) (k : Nat) (ps : List Str) (sp : Sp) : Prop :=
  ∃ fd, Binds K fd ps [] ∧ FnOk P w K mg base CX0 k (He.fAd K p) fd ps sp ∧ PySem.W.keepIn K (.ref (He.fAd K p)) = true
theorem calF {P : Program} {w : World} {K : PySem.W.Frag} {mg : Str → Option Value} {base : Heap} {d : He.DefD} {N ps : List Str} {k : Nat} {sp : Sp} (T : Tx K mg) (i : Nat) (hi : fn[i]? = some d) (S : FnScope N ps d.scope) (hd : d.dfl = []) (hk : d.kwd = [])
    (hb : ∀ (kV doc pm : Value) (an : Option Addr) (cdv ct : Value) (us : List Value), us.length = ps.length → bindArgs (PySem.W.fnOf d.name d.qual d.params d.body d.scope .none kV doc pm an cdv ct) ⟨us, []⟩ = pure (ps.zip us))
    (len : ∀ vs H Q E, sp vs H Q E → vs.length = ps.length)
    (body : ∀ (cdv : Value) (A : Around) (outer : List Env) (s : Shared) (H : Hp) (vs : List V) (Q : VK) (E : XK), Room k (A.deeper (envOfC d.qual d.scope s.heap.objs.size (He.fAd K d.at_) cdv)) → sp vs H Q E →
      ∃ t, PSs (cxOf CX0 P w K mg base N d.qual d.scope (He.fAd K d.at_) cdv A outer s H E).nox d.body t ∧ t { nx := fun _ H' => Q .non H', rt := Q } (start N vs) H) : CalF P w K mg base d.at_ (k + 1) ps sp := by
  obtain ⟨fd, F⟩ := T.says.def_ i hi
  unfold He.DefD.dvs He.DefD.kws at F
  rw [hd, hk] at F
  have F' : FunD K d.name d.qual d.params d.body d.scope [] [] (He.fAd K d.at_) fd := F
  refine ⟨fd, F'.bindsN hb, F'.ok S len fun cdv A outer s H vs Q E hr h => ?_, F'.kp⟩
  obtain ⟨t, h1, h2⟩ := body cdv A outer s H vs Q E hr h
  exact ⟨t, h1.nox, h2⟩
end Nt
set_option maxRecDepth 100000
set_option maxHeartbeats 1000000
/-! NtE: words, clauses, bundles, values. -/
namespace Nt
open PySem PySem.Spec PyProof.Rows L2
/-! ### plain -/
def asc (c : List Int) : Bool := (c.zip c.tail).all fun p => decide (p.1 < p.2)
def isCl (many : Int) (c : List Int) : Bool := (c.all fun l => decide (1 ≤ (if l < 0 then -l else l)) && decide ((if l < 0 then -l else l) ≤ many)) && asc c
/-! ### promises -/
def sp_is_integer (K : PySem.W.Frag) : Sp := fun vs H Q _ => ∃ i : Int, vs = [.int i] ∧ Q (.bl true) H
theorem len_is_integer (K : PySem.W.Frag) : ∀ vs H Q E, sp_is_integer K vs H Q E → vs.length = 1 := by
  rintro vs H Q E ⟨i, rfl, _⟩; rfl
def sp_is_between (K : PySem.W.Frag) : Sp := fun vs H Q _ => ∃ i a b : Int, vs = [.int i, .int a, .int b] ∧ Q (.bl (decide (a ≤ i) && decide (i ≤ b))) H
theorem len_is_between (K : PySem.W.Frag) : ∀ vs H Q E, sp_is_between K vs H Q E → vs.length = 3 := by
  rintro vs H Q E ⟨i, a, b, rfl, _⟩; rfl
def sp_is_ascending (K : PySem.W.Frag) : Sp := fun vs H Q _ => ∃ (a : Addr) (c : List Int), vs = [.ref a] ∧ H a = some (.tup (c.map V.int)) ∧ c.length ≤ 100000 ∧ ∀ H', Same H H' → Q (.bl (asc c)) H'
theorem len_is_ascending (K : PySem.W.Frag) : ∀ vs H Q E, sp_is_ascending K vs H Q E → vs.length = 1 := by
  rintro vs H Q E ⟨a, c, rfl, _⟩; rfl
def sp_is_clause (K : PySem.W.Frag) : Sp := fun vs H Q _ => ∃ (many : Int) (a : Addr) (c : List Int), vs = [.int many, .ref a] ∧ H a = some (.tup (c.map V.int)) ∧ c.length ≤ 100000 ∧ ∀ H', Same H H' → Q (.bl (isCl many c)) H'
theorem len_is_clause (K : PySem.W.Frag) : ∀ vs H Q E, sp_is_clause K vs H Q E → vs.length = 2 := by
  rintro vs H Q E ⟨m, a, c, rfl, _⟩; rfl
/-- a bundle as it stands: many numbers, the clauses by their places -/
structure Bd (H : Hp) (v : V) (many : Int) (as : List Cl) : Prop where
  at_ : ∃ a b, v = .ref a ∧ H a = some (.tup [.int many, .ref b]) ∧ H b = some (.tup (as.map rf))
  cls : CLs H as
theorem Bd.mono {H H' : Hp} {v : V} {many : Int} {as : List Cl} (h : Bd H v many as) (s : Same H H') : Bd H' v many as := by
  obtain ⟨a, b, e, h1, h2⟩ := h.at_
  exact ⟨⟨a, b, e, s _ _ h1, s _ _ h2⟩, h.cls.mono s⟩
/-- a bundle that is one -/
structure BdOk (many : Int) (cs : List (List Int)) : Prop where
  lo : 0 ≤ many
  hi : many ≤ 6000
  len : cs.length ≤ 30000
  cl : ∀ c ∈ cs, isCl many c = true
  short : ∀ c ∈ cs, c.length ≤ 100000
def sp_is_bundle (K : PySem.W.Frag) : Sp := fun vs H Q _ => ∃ (v : V) (many : Int) (as : List Cl), vs = [v] ∧ Bd H v many as ∧ BdOk many (as.map (·.2)) ∧ ∀ H', Same H H' → Q (.bl true) H'
theorem len_is_bundle (K : PySem.W.Frag) : ∀ vs H Q E, sp_is_bundle K vs H Q E → vs.length = 1 := by
  rintro vs H Q E ⟨v, m, as, rfl, _⟩; rfl
def sp_check_bundle (K : PySem.W.Frag) : Sp := fun vs H Q _ => ∃ (v : V) (many : Int) (as : List Cl), vs = [v] ∧ Bd H v many as ∧ BdOk many (as.map (·.2)) ∧ ∀ H', Same H H' → Q .non H'
theorem len_check_bundle (K : PySem.W.Frag) : ∀ vs H Q E, sp_check_bundle K vs H Q E → vs.length = 1 := by
  rintro vs H Q E ⟨v, m, as, rfl, _⟩; rfl
/-- values: 1, 2, .., each perhaps below 0 -/
def isVal (many : Int) (vs : List Int) : Bool := decide ((vs.length : Int) = many) && vs.zipIdx.all fun p => decide ((if p.1 < 0 then -p.1 else p.1) = (p.2 : Int) + 1)
def sp_are_values_of (K : PySem.W.Frag) : Sp := fun vs H Q _ => ∃ (v : V) (many : Int) (as : List Cl) (a : Addr) (ns : List Int), vs = [v, .ref a] ∧ Bd H v many as ∧ H a = some (.tup (ns.map V.int)) ∧ ns.length ≤ 100000 ∧ ∀ H', Same H H' → Q (.bl (isVal many ns)) H'
theorem len_are_values_of (K : PySem.W.Frag) : ∀ vs H Q E, sp_are_values_of K vs H Q E → vs.length = 2 := by
  rintro vs H Q E ⟨v, m, as, a, ns, rfl, _⟩; rfl
def doHold (cs : List (List Int)) (vs : List Int) : Bool := cs.all fun c => c.any fun l => decide (l ∈ vs)
def sp_do_hold (K : PySem.W.Frag) : Sp := fun vs H Q _ => ∃ (v : V) (many : Int) (as : List Cl) (a : Addr) (ns : List Int), vs = [v, .ref a] ∧ Bd H v many as ∧ BdOk many (as.map (·.2)) ∧ H a = some (.tup (ns.map V.int)) ∧ ns.length ≤ 100000 ∧ ∀ H', Same H H' → Q (.bl (doHold (as.map (·.2)) ns)) H'
theorem len_do_hold (K : PySem.W.Frag) : ∀ vs H Q E, sp_do_hold K vs H Q E → vs.length = 2 := by
  rintro vs H Q E ⟨v, m, as, a, ns, rfl, _⟩; rfl
/-! ### dicts of pairs -/
theorem valV_app {κ : Type} [DecidableEq κ] (k : κ) (p : κ × V) : ∀ l : List (κ × V), valV (l ++ [p]) k = (valV l k).or (if k = p.1 then some p.2 else none)
  | [] => by
    by_cases h : p.1 = k
    · rw [List.nil_append, valV_pos h, if_pos h.symm]; rfl
    · rw [List.nil_append, valV_neg h, if_neg fun z => h z.symm]; rfl
  | q :: l => by
    by_cases h : q.1 = k
    · rw [List.cons_append, valV_pos h, valV_pos h]; rfl
    · rw [List.cons_append, valV_neg h, valV_neg h]; exact valV_app k p l
theorem valV_merge (k : Key) : ∀ (more kvs : List (Key × V)), valV (mergeK kvs more) k = (valV more.reverse k).or (valV kvs k)
  | [], kvs => rfl
  | p :: r, kvs => by
    show valV (mergeK (putK kvs p.1 p.2) r) k = _
    rw [valV_merge k r, List.reverse_cons, valV_app, valV_put]
    cases valV r.reverse k with
    | some v => rfl
    | none =>
      by_cases h : k = p.1
      · rw [if_pos h, if_pos h]; rfl
      · rw [if_neg h, if_neg h]; rfl
theorem valV_mem {k : Key} {v : V} : ∀ {kvs : List (Key × V)}, (kvs.map (·.1)).Nodup → (k, v) ∈ kvs → valV kvs k = some v
  | p :: r, hn, hm => by
    obtain ⟨h1, h2⟩ := List.nodup_cons.mp (show (p.1 :: r.map (·.1)).Nodup from hn)
    rcases List.mem_cons.mp hm with e | hm
    · rw [← e, valV_pos rfl]
    · have : ¬ p.1 = k := fun z => h1 (z ▸ List.mem_map.mpr ⟨_, hm, rfl⟩)
      rw [valV_neg this]; exact valV_mem h2 hm
theorem valV_none {k : Key} {kvs : List (Key × V)} (h : k ∉ kvs.map (·.1)) : valV kvs k = none := by
  cases e : valV kvs k with
  | none => rfl
  | some v => exact absurd (valV_in e) h
/-- of distinct keys the merged pairs tell what the pairs tell -/
theorem valV_merged {kvs : List (Key × V)} (hn : (kvs.map (·.1)).Nodup) (k : Key) : valV (mergeK [] kvs) k = valV kvs k := by
  rw [valV_merge, valV_nil, Option.or_none]
  cases e : valV kvs k with
  | none =>
    refine valV_none fun hm => ?_
    rw [List.map_reverse, List.mem_reverse] at hm
    exact absurd (valV_not e) (fun z => z hm)
  | some v =>
    have hm : (k, v) ∈ kvs := by
      unfold valV at e
      obtain ⟨p, hp, hv⟩ := Option.map_eq_some_iff.mp e
      have h1 := List.find?_some hp
      have h2 := List.mem_of_find?_eq_some hp
      have h1 : p.1 = k := of_decide_eq_true h1
      rw [← h1, ← hv]; exact h2
    refine valV_mem ?_ (List.mem_reverse.mpr hm)
    rw [List.map_reverse]
    exact (List.reverse_perm _).nodup_iff.mpr hn
theorem isSome_mergeT (k : Int) (ns : List Int) : (valV (mergeK [] (ns.map fun n => ((Sum.inl n : Key), V.bl true))) (Sum.inl k)).isSome = decide (k ∈ ns) := by
  rw [valV_merge, valV_nil, Option.or_none, ← List.map_reverse]
  rw [← valV_any]
  rw [List.any_map, show decide (k ∈ ns) = decide (k ∈ ns.reverse) by simp]
  induction ns.reverse with
  | nil => rfl
  | cons n r ih =>
    rw [List.any_cons, ih]
    by_cases h : n = k
    · subst h; simp
    · have h2 : ¬ k = n := fun z => h z.symm
      simp [h, h2]
theorem paired_dict {α : Type} {K : PySem.W.Frag} {H : Hp} {f : α → Key} {v : α → V} : ∀ {as : List α} {ys : List V}, Paired (fun a y => ∃ q, y = .ref q ∧ H q = some (.tup [kV (f a), v a])) as ys →
    ∃ ps : List Addr, ys = ps.map V.ref ∧ Paired (fun p (kv : Key × V) => SqT K H p [kV kv.1, kv.2]) ps (as.map fun a => (f a, v a))
  | _, _, .nil => ⟨[], rfl, .nil⟩
  | _, _, .cons ⟨q, e, h⟩ t => by
    obtain ⟨ps, e1, p⟩ := paired_dict (K := K) t
    exact ⟨q :: ps, by rw [e, e1]; rfl, .cons (SqT.of h) p⟩
theorem dec_int (a b : Int) : decide (V.int a = V.int b) = decide (a = b) := by
  by_cases h : a = b
  · subst h; simp
  · rw [decide_eq_false h, decide_eq_false fun z => h (V.int.inj z)]
section
variable {P : Program} {w : World} {K : PySem.W.Frag} {mg : Str → Option Value} {base : Heap}
theorem sc_is_integer : FnScope ["value"] ["value"] (defScope s_is_integer) := ⟨rfl, rfl, rfl, by decide +kernel, rfl, by decide +kernel, by decide +kernel⟩
theorem ok_is_integer (T : Tx K mg)  : CalF P w K mg base ("is_integer", none) 1 ["value"] (sp_is_integer K) := by
  have mg_isinstance : mg "isinstance" = none := T.free 61
  have mg_int : mg "int" = none := T.free 60
  have mg_bool : mg "bool" = none := T.free 57
  refine calF T (d := d_is_integer) 0 rfl sc_is_integer rfl rfl (fun _ _ _ _ _ _ us hl => match us, hl with | [_], _ => rfl) (len_is_integer K) ?_
  intro cdv A outer s H vs Q E hr h
  have hu := hu_of hr
  obtain ⟨i, rfl, k⟩ := h
  refine ⟨_, (pss_one (ps_ret (pe_and (pe_callB call_isi2 (by rfl) mg_isinstance bt_isinstance (pa_cons (pv 0) (pa_cons (pe_bltn (v := .ty "int") (by rfl) mg_int bt_int rfl) pa_nil))) (pe_one (pe_not (pe_callB call_isi2 (by rfl) mg_isinstance bt_isinstance (pa_cons (pv 0) (pa_cons (pe_bltn (v := .ty "bool") (by rfl) mg_bool bt_bool rfl) pa_nil)))))))), ?_⟩
  exact ⟨_, rfl, _, _, rfl, .inl ⟨i, rfl, .inl ⟨rfl, _, rfl, iteT ⟨_, rfl, _, _, rfl, .inl ⟨i, rfl, .inr ⟨rfl, _, rfl, k⟩⟩⟩⟩⟩⟩
theorem sc_is_between : FnScope ["value", "low", "high"] ["value", "low", "high"] (defScope s_is_between) := ⟨rfl, rfl, rfl, by decide +kernel, rfl, by decide +kernel, by decide +kernel⟩
theorem ok_is_between (T : Tx K mg) (C_is_integer : CalF P w K mg base ("is_integer", none) 1 ["value"] (sp_is_integer K)) : CalF P w K mg base ("is_between", none) 2 ["value", "low", "high"] (sp_is_between K) := by
  obtain ⟨fd_is_integer, b_is_integer, G_is_integer, kp_is_integer⟩ := C_is_integer
  have mg_is_integer : mg "is_integer" = some (.ref (He.ga K "is_integer")) := T.glo 0
  refine calF T (d := d_is_between) 1 rfl sc_is_between rfl rfl (fun _ _ _ _ _ _ us hl => match us, hl with | [_, _, _], _ => rfl) (len_is_between K) ?_
  intro cdv A outer s H vs Q E hr h
  have hu := hu_of hr
  obtain ⟨i, a, b, rfl, k⟩ := h
  refine ⟨_, (pss_one (ps_ret (pe_and (pe_call G_is_integer (hr.mono (by decide)) (by rfl) mg_is_integer kp_is_integer b_is_integer .nil pass0 (pa_cons (pv 0) pa_nil)) (pe_one (pe_chain op_le op_le (pv 1) (pv 0) (pv 2)))))), ?_⟩
  refine ⟨_, rfl, i, rfl, _, rfl, iteT ?_⟩
  refine ⟨_, rfl, _, rfl, _, _, rfl, rfl, _, rfl, ?_⟩
  by_cases h1 : a ≤ i
  · rw [decide_eq_true h1] at k ⊢
    refine iteT ⟨_, rfl, _, _, rfl, rfl, ?_⟩
    rw [Bool.true_and] at k
    exact k
  · rw [decide_eq_false h1] at k ⊢
    exact iteF k
theorem sc_is_ascending : FnScope ["items", "one", "other"] ["items"] (defScope s_is_ascending) := ⟨rfl, rfl, rfl, by decide +kernel, rfl, by decide +kernel, by decide +kernel⟩
theorem ok_is_ascending (T : Tx K mg)  : CalF P w K mg base ("is_ascending", none) 1 ["items"] (sp_is_ascending K) := by
  have mg_all : mg "all" = none := T.free 55
  have mg_zip : mg "zip" = none := T.free 74
  refine calF T (d := d_is_ascending) 2 rfl sc_is_ascending rfl rfl (fun _ _ _ _ _ _ us hl => match us, hl with | [_], _ => rfl) (len_is_ascending K) ?_
  intro cdv A outer s H vs Q E hr h
  have hu := hu_of hr
  obtain ⟨a, c, rfl, hc, hl, k⟩ := h
  refine ⟨_, (pss_one (ps_ret (pe_callB (cr_all2 rfl) (by rfl) mg_all bt_all (pa_cons (pe_lc (own := [("one", 1), ("other", 2)]) (g := gTup K 2 (gCons (gName 1) (gCons (gName 2) gNil))) (tt := tYes) rfl sc_is_ascending.nd (RZ.pi_zipA (by rfl) mg_zip (pa_cons (pv 0) (pa_cons (pe_slice sl_tup2 (pv 0) (po_some pe_int) po_none) pa_nil))) (blkOk_by (by kernel_rfl)) (fun _ _ _ _ _ => (pg_tup rfl (pgs_cons (pg_name (i := 1) sc_is_ascending.nd rfl (Or.inl rfl)) (pgs_cons (pg_name (i := 2) sc_is_ascending.nd rfl (Or.inl rfl)) pgs_nil)))) (fun _ _ _ _ _ => pts_nil) (fun _ _ _ _ _ => (pe_cmpR op_lt (pv 1) (pv 2) (nomark _)))) pa_nil)))), ?_⟩
  refine ⟨_, rfl, _, rfl, _, rfl, a, _, rfl, hc, fun b H1 s1 hb => ?_⟩
  rw [cut_tail] at hb
  refine ⟨a, b, _, _, rfl, .inr ⟨SqT.of (s1 _ _ hc), SqT.of hb, ?_⟩⟩
  refine lcV0 (c.zip c.tail) _ (wkZT (c.zip c.tail) (fun p => .int p.1) (fun p => .int p.2) ?_ ?_ ?_) yPair (fun p => .bl (decide (p.1 < p.2))) ?_ (by intro _; rfl) (fun H h => ⟨SqT.of (h _ _ (s1 _ _ hc)), SqT.of (h _ _ hb)⟩) ?_ ?_
  · intro i p hp
    rw [List.getElem?_map, (List.getElem?_zip_eq_some.mp hp).1]; rfl
  · intro i p hp
    rw [← List.map_tail, List.getElem?_map, (List.getElem?_zip_eq_some.mp hp).2]; rfl
  · simp
  · rw [List.length_zip]; omega
  · rintro p hp H2 s2 Qe q
    exact ⟨_, rfl, _, rfl, _, _, rfl, rfl, q _ (Same.refl _)⟩
  · intro D H2 _ s2 h2
    exact ⟨_, _, _, _, rfl, h2, k _ (s1.trans s2)⟩
theorem sc_is_clause : FnScope ["many", "value", "one"] ["many", "value"] (defScope s_is_clause) := ⟨rfl, rfl, rfl, by decide +kernel, rfl, by decide +kernel, by decide +kernel⟩
theorem ok_is_clause (T : Tx K mg) (C_is_ascending : CalF P w K mg base ("is_ascending", none) 1 ["items"] (sp_is_ascending K)) (C_is_integer : CalF P w K mg base ("is_integer", none) 1 ["value"] (sp_is_integer K)) : CalF P w K mg base ("is_clause", none) 2 ["many", "value"] (sp_is_clause K) := by
  have mg_isinstance : mg "isinstance" = none := T.free 61
  have mg_tuple : mg "tuple" = none := T.free 73
  have mg_all : mg "all" = none := T.free 55
  have mg_abs : mg "abs" = none := T.free 54
  obtain ⟨fd_is_ascending, b_is_ascending, G_is_ascending, kp_is_ascending⟩ := C_is_ascending
  obtain ⟨fd_is_integer, b_is_integer, G_is_integer, kp_is_integer⟩ := C_is_integer
  have mg_is_ascending : mg "is_ascending" = some (.ref (He.ga K "is_ascending")) := T.glo 2
  have mg_is_integer : mg "is_integer" = some (.ref (He.ga K "is_integer")) := T.glo 0
  refine calF T (d := d_is_clause) 3 rfl sc_is_clause rfl rfl (fun _ _ _ _ _ _ us hl => match us, hl with | [_, _], _ => rfl) (len_is_clause K) ?_
  intro cdv A outer s H vs Q E hr h
  have hu := hu_of hr
  obtain ⟨many, a, c, rfl, hc, hl, k⟩ := h
  refine ⟨_, (pss_cons (ps_if (PW.pt (pw_or (pt_not (pt_val (pe_callB call_isi2 (by rfl) mg_isinstance bt_isinstance (pa_cons (pv 1) (pa_cons (pe_bltn (v := .ty "tuple") (by rfl) mg_tuple bt_tuple rfl) pa_nil))))) (pw_or1 (pt_not (pt_val (pe_callB (cr_all2 rfl) (by rfl) mg_all bt_all (pa_cons (pe_lc (own := [("one", 2)]) (g := gName 2) (tt := tYes) rfl sc_is_clause.nd (pi_tupK (K := K) rfl (pv 1)) (blkOk_by (by kernel_rfl)) (fun _ _ _ _ _ => (pg_name (i := 2) sc_is_clause.nd rfl (Or.inl rfl))) (fun _ _ _ _ _ => pts_nil) (fun _ _ _ _ _ => (pe_and (pe_call G_is_integer (hr.mono (by decide)) (by rfl) mg_is_integer kp_is_integer b_is_integer .nil pass0 (pa_cons (pv 2) pa_nil)) (pe_one (pe_chain op_le op_le pe_int (pe_callB call_abs (by rfl) mg_abs bt_abs (pa_cons (pv 2) pa_nil)) (pv 0)))))) pa_nil))))))) (pss_one (ps_ret pe_bl)) pss_nil)
      (pss_one (ps_ret (pe_call G_is_ascending (hr.mono (by decide)) (by rfl) mg_is_ascending kp_is_ascending b_is_ascending .nil pass0 (pa_cons (pv 1) pa_nil))))), ?_⟩
  refine ⟨_, rfl, _, _, rfl, .inr (.inl ⟨a, _, rfl, rfl, .inl ⟨hc, _, rfl, iteF ?_⟩⟩)⟩
  refine ⟨_, rfl, a, rfl, ⟨_, SqT.of hc⟩, ?_⟩
  refine lcV0 c _ (wkT c V.int) yName (fun l => .bl (decide (1 ≤ (if l < 0 then -l else l)) && decide ((if l < 0 then -l else l) ≤ many))) hl (by intro _; rfl) (fun H h => SqT.of (h _ _ hc)) ?_ ?_
  · intro l hl H1 s1 Qe q
    refine ⟨_, rfl, l, rfl, _, rfl, iteT ⟨_, rfl, _, rfl, _, _, rfl, rfl, _, rfl, ?_⟩⟩
    by_cases h1 : 1 ≤ (if l < 0 then -l else l)
    · refine ite2 (fun _ => ?_) (fun h => absurd (decide_eq_true h1) h)
      refine ⟨_, rfl, _, _, rfl, rfl, ?_⟩
      have q := q H1 (Same.refl _)
      rw [decide_eq_true h1, Bool.true_and] at q
      exact q
    · refine ite2 (fun h => absurd (of_decide_eq_true h) h1) (fun h => ?_)
      have q := q H1 (Same.refl _)
      rw [decide_eq_false h1, Bool.false_and] at q
      exact q
  · intro D H1 _ s1 h1
    refine ⟨_, _, _, _, rfl, h1, _, rfl, ?_⟩
    have k := fun H' s => k H' (s1.trans s)
    unfold isCl at k
    cases e : c.all fun l => decide (1 ≤ (if l < 0 then -l else l)) && decide ((if l < 0 then -l else l) ≤ many) with
    | false =>
      rw [e] at k
      exact iteT (k H1 (Same.refl _))
    | true =>
      rw [e] at k
      refine iteF ⟨_, rfl, a, c, rfl, s1 _ _ hc, hl, fun H' s => ?_⟩
      have k := k H' s
      rw [Bool.true_and] at k
      exact k
theorem sc_is_bundle : FnScope ["value", "clause"] ["value"] (defScope s_is_bundle) := ⟨rfl, rfl, rfl, by decide +kernel, rfl, by decide +kernel, by decide +kernel⟩
theorem ok_is_bundle (T : Tx K mg) (C_is_between : CalF P w K mg base ("is_between", none) 2 ["value", "low", "high"] (sp_is_between K)) (C_is_clause : CalF P w K mg base ("is_clause", none) 2 ["many", "value"] (sp_is_clause K)) : CalF P w K mg base ("is_bundle", none) 3 ["value"] (sp_is_bundle K) := by
  have mg_all : mg "all" = none := T.free 55
  have mg_isinstance : mg "isinstance" = none := T.free 61
  have mg_tuple : mg "tuple" = none := T.free 73
  have mg_len : mg "len" = none := T.free 62
  obtain ⟨t_MOST_CLAUSES, mg_MOST_CLAUSES⟩ := T.int 76 (x := "MOST_CLAUSES") (i := 30000)
  obtain ⟨t_MOST_NUMBERS, mg_MOST_NUMBERS⟩ := T.int 75 (x := "MOST_NUMBERS") (i := 6000)
  obtain ⟨fd_is_between, b_is_between, G_is_between, kp_is_between⟩ := C_is_between
  obtain ⟨fd_is_clause, b_is_clause, G_is_clause, kp_is_clause⟩ := C_is_clause
  have mg_is_between : mg "is_between" = some (.ref (He.ga K "is_between")) := T.glo 1
  have mg_is_clause : mg "is_clause" = some (.ref (He.ga K "is_clause")) := T.glo 3
  refine calF T (d := d_is_bundle) 4 rfl sc_is_bundle rfl rfl (fun _ _ _ _ _ _ us hl => match us, hl with | [_], _ => rfl) (len_is_bundle K) ?_
  intro cdv A outer s H vs Q E hr h
  have hu := hu_of hr
  obtain ⟨v, many, as, rfl, B, ok, k⟩ := h
  obtain ⟨a, b, rfl, ha, hb⟩ := B.at_
  refine ⟨_, (pss_cons (ps_if (PW.pt (pw_or (pt_not (pt_val (pe_callB call_isi2 (by rfl) mg_isinstance bt_isinstance (pa_cons (pv 0) (pa_cons (pe_bltn (v := .ty "tuple") (by rfl) mg_tuple bt_tuple rfl) pa_nil))))) (pw_or (pt_cmpR op_ne (pe_callB call_len2 (by rfl) mg_len bt_len (pa_cons (pv 0) pa_nil)) pe_int (nomark _)) (pw_or1 (pt_not (pt_val (pe_call G_is_between (hr.mono (by decide)) (by rfl) mg_is_between kp_is_between b_is_between .nil pass0 (pa_cons (pe_ix ix_tup2 (pv 0) pe_int (fun _ _ => rfl)) (pa_cons pe_int (pa_cons (pe_glob (v := .int 6000) (by rfl) mg_MOST_NUMBERS ⟨_, rfl⟩) pa_nil)))))))))) (pss_one (ps_ret pe_bl)) pss_nil)
      (pss_cons (ps_if (PW.pt (pw_or (pt_not (pt_val (pe_callB call_isi2 (by rfl) mg_isinstance bt_isinstance (pa_cons (pe_ix ix_tup2 (pv 0) pe_int (fun _ _ => rfl)) (pa_cons (pe_bltn (v := .ty "tuple") (by rfl) mg_tuple bt_tuple rfl) pa_nil))))) (pw_or1 (pt_cmpR op_gt (pe_callB call_len2 (by rfl) mg_len bt_len (pa_cons (pe_ix ix_tup2 (pv 0) pe_int (fun _ _ => rfl)) pa_nil)) (pe_glob (v := .int 30000) (by rfl) mg_MOST_CLAUSES ⟨_, rfl⟩) (nomark _))))) (pss_one (ps_ret pe_bl)) pss_nil)
      (pss_one (ps_ret (pe_callB (cr_all2 rfl) (by rfl) mg_all bt_all (pa_cons (pe_lc (own := [("clause", 1)]) (g := gName 1) (tt := tYes) rfl sc_is_bundle.nd (pi_tupK (K := K) rfl (pe_ix ix_tup2 (pv 0) pe_int (fun _ _ => rfl))) (blkOk_by (by kernel_rfl)) (fun _ _ _ _ _ => (pg_name (i := 1) sc_is_bundle.nd rfl (Or.inl rfl))) (fun _ _ _ _ _ => pts_nil) (fun _ _ _ _ _ => (pe_call G_is_clause (hr.mono (by decide)) (by rfl) mg_is_clause kp_is_clause b_is_clause .nil pass0 (pa_cons (pe_ix ix_tup2 (pv 0) pe_int (fun _ _ => rfl)) (pa_cons (pv 1) pa_nil))))) pa_nil)))))), ?_⟩
  refine ⟨_, rfl, _, _, rfl, .inr (.inl ⟨a, _, rfl, rfl, .inl ⟨ha, _, rfl, iteF ?_⟩⟩)⟩
  refine ⟨_, rfl, a, _, rfl, .inr ha, rfl, _, rfl, iteF ?_⟩
  refine ⟨_, rfl, _, _, _, _, rfl, rfl, ha, rfl, many, 0, 6000, rfl, ?_⟩
  have e1 : (decide ((0 : Int) ≤ many) && decide (many ≤ 6000)) = true := by rw [decide_eq_true ok.lo, decide_eq_true ok.hi]; rfl
  rw [e1]
  refine ⟨_, rfl, iteF ?_⟩
  refine ⟨_, rfl, _, _, _, _, rfl, rfl, ha, rfl, _, _, rfl, .inr (.inl ⟨b, _, rfl, rfl, .inl ⟨hb, _, rfl, iteF ?_⟩⟩)⟩
  refine ⟨_, rfl, _, _, _, _, rfl, rfl, ha, rfl, b, _, rfl, .inr hb, _, _, rfl, rfl, _, rfl, ?_⟩
  have hl : as.length ≤ 30000 := by have := ok.len; rwa [List.length_map] at this
  have e2 : decide ((30000 : Int) < (((as.map rf).length : Nat) : Int)) = false := decide_eq_false (by rw [List.length_map]; omega)
  rw [e2]
  refine iteF ?_
  refine ⟨_, rfl, _, _, _, _, rfl, rfl, ha, rfl, b, rfl, ⟨_, SqT.of hb⟩, ?_⟩
  refine lcV0 as _ (wkT as rf) yName (fun _ => .bl true) (by omega) (by intro _; rfl) (fun H h => SqT.of (h _ _ hb)) ?_ ?_
  · intro x hx H1 s1 Qe q
    refine ⟨_, rfl, _, _, _, _, rfl, rfl, s1 _ _ ha, rfl, _, rfl, many, x.1, x.2, rfl, s1 _ _ (B.cls x hx), ok.short _ (List.mem_map.mpr ⟨x, hx, rfl⟩), fun H2 s2 => ?_⟩
    rw [ok.cl _ (List.mem_map.mpr ⟨x, hx, rfl⟩)]
    exact q H2 s2
  · intro D H1 _ s1 h1
    refine ⟨_, _, _, fun _ => true, rfl, h1, ?_⟩
    rw [List.all_eq_true.mpr fun _ _ => rfl]
    exact k H1 s1
theorem sc_check_bundle : FnScope ["bundle"] ["bundle"] (defScope s_check_bundle) := ⟨rfl, rfl, rfl, by decide +kernel, rfl, by decide +kernel, by decide +kernel⟩
theorem ok_check_bundle (T : Tx K mg) (C_is_bundle : CalF P w K mg base ("is_bundle", none) 3 ["value"] (sp_is_bundle K)) : CalF P w K mg base ("check_bundle", none) 4 ["bundle"] (sp_check_bundle K) := by
  obtain ⟨fd_is_bundle, b_is_bundle, G_is_bundle, kp_is_bundle⟩ := C_is_bundle
  have mg_is_bundle : mg "is_bundle" = some (.ref (He.ga K "is_bundle")) := T.glo 4
  refine calF T (d := d_check_bundle) 5 rfl sc_check_bundle rfl rfl (fun _ _ _ _ _ _ us hl => match us, hl with | [_], _ => rfl) (len_check_bundle K) ?_
  intro cdv A outer s H vs Q E hr h
  have hu := hu_of hr
  obtain ⟨v, many, as, rfl, B, ok, k⟩ := h
  refine ⟨_, (pss_one (ps_if (pt_not (pt_val (pe_call G_is_bundle (hr.mono (by decide)) (by rfl) mg_is_bundle kp_is_bundle b_is_bundle .nil pass0 (pa_cons (pv 0) pa_nil)))) (pss_one (ps_never (st := _))) pss_nil)), ?_⟩
  exact ⟨_, rfl, v, many, as, rfl, B, ok, fun H1 s1 => ⟨_, rfl, iteF (k H1 s1)⟩⟩
theorem sc_are_values_of : FnScope ["bundle", "value", "one", "place"] ["bundle", "value"] (defScope s_are_values_of) := ⟨rfl, rfl, rfl, by decide +kernel, rfl, by decide +kernel, by decide +kernel⟩
theorem ok_are_values_of (T : Tx K mg) (C_is_integer : CalF P w K mg base ("is_integer", none) 1 ["value"] (sp_is_integer K)) : CalF P w K mg base ("are_values_of", none) 2 ["bundle", "value"] (sp_are_values_of K) := by
  have mg_all : mg "all" = none := T.free 55
  have mg_isinstance : mg "isinstance" = none := T.free 61
  have mg_tuple : mg "tuple" = none := T.free 73
  have mg_len : mg "len" = none := T.free 62
  have mg_abs : mg "abs" = none := T.free 54
  have mg_enumerate : mg "enumerate" = none := T.free 59
  obtain ⟨fd_is_integer, b_is_integer, G_is_integer, kp_is_integer⟩ := C_is_integer
  have mg_is_integer : mg "is_integer" = some (.ref (He.ga K "is_integer")) := T.glo 0
  refine calF T (d := d_are_values_of) 6 rfl sc_are_values_of rfl rfl (fun _ _ _ _ _ _ us hl => match us, hl with | [_, _], _ => rfl) (len_are_values_of K) ?_
  intro cdv A outer s H vs Q E hr h
  have hu := hu_of hr
  obtain ⟨v, many, as, va, ns, rfl, B, hv, hl, k⟩ := h
  obtain ⟨a, b, rfl, ha, hb⟩ := B.at_
  refine ⟨_, (pss_cons (ps_if (PW.pt (pw_or (pt_not (pt_val (pe_callB call_isi2 (by rfl) mg_isinstance bt_isinstance (pa_cons (pv 1) (pa_cons (pe_bltn (v := .ty "tuple") (by rfl) mg_tuple bt_tuple rfl) pa_nil))))) (pw_or (pt_cmpR op_ne (pe_callB call_len2 (by rfl) mg_len bt_len (pa_cons (pv 1) pa_nil)) (pe_ix ix_tup2 (pv 0) pe_int (fun _ _ => rfl)) (nomark _)) (pw_or1 (pt_not (pt_val (pe_callB (cr_all2 rfl) (by rfl) mg_all bt_all (pa_cons (pe_lc (own := [("one", 2)]) (g := gName 2) (tt := tYes) rfl sc_are_values_of.nd (pi_tupK (K := K) rfl (pv 1)) (blkOk_by (by kernel_rfl)) (fun _ _ _ _ _ => (pg_name (i := 2) sc_are_values_of.nd rfl (Or.inl rfl))) (fun _ _ _ _ _ => pts_nil) (fun _ _ _ _ _ => (pe_call G_is_integer (hr.mono (by decide)) (by rfl) mg_is_integer kp_is_integer b_is_integer .nil pass0 (pa_cons (pv 2) pa_nil)))) pa_nil)))))))) (pss_one (ps_ret pe_bl)) pss_nil)
      (pss_one (ps_ret (pe_callB (cr_all2 rfl) (by rfl) mg_all bt_all (pa_cons (pe_lc (own := [("place", 3), ("one", 2)]) (g := gTup K 2 (gCons (gName 3) (gCons (gName 2) gNil))) (tt := tYes) rfl sc_are_values_of.nd (pi_enumT (by rfl) mg_enumerate (pa_cons (pv 1) pa_nil)) (blkOk_by (by kernel_rfl)) (fun _ _ _ _ _ => (pg_tup rfl (pgs_cons (pg_name (i := 3) sc_are_values_of.nd rfl (Or.inl rfl)) (pgs_cons (pg_name (i := 2) sc_are_values_of.nd rfl (Or.inl rfl)) pgs_nil)))) (fun _ _ _ _ _ => pts_nil) (fun _ _ _ _ _ => (pe_cmpR op_eq (pe_callB call_abs (by rfl) mg_abs bt_abs (pa_cons (pv 2) pa_nil)) (pe_op op_add (pv 3) pe_int) (nomark _)))) pa_nil))))), ?_⟩
  refine ⟨_, rfl, _, _, rfl, .inr (.inl ⟨va, _, rfl, rfl, .inl ⟨hv, _, rfl, iteF ?_⟩⟩)⟩
  refine ⟨_, rfl, va, _, rfl, .inr hv, _, rfl, _, _, _, _, rfl, rfl, ha, rfl, rfl, _, rfl, ?_⟩
  rw [dec_int, List.length_map]
  by_cases hm : (ns.length : Int) = many
  · rw [decide_eq_true hm]
    refine iteF ?_
    refine ⟨_, rfl, va, rfl, ⟨_, SqT.of hv⟩, ?_⟩
    refine lcV0 ns _ (wkT ns V.int) yName (fun _ => .bl true) hl (by intro _; rfl) (fun H h => SqT.of (h _ _ hv)) ?_ ?_
    · intro n hn H1 s1 Qe q
      exact ⟨_, rfl, n, rfl, q H1 (Same.refl _)⟩
    · intro D H1 _ s1 h1
      refine ⟨_, _, _, fun _ => true, rfl, h1, _, rfl, ?_⟩
      rw [List.all_eq_true.mpr fun _ _ => rfl]
      refine iteF ?_
      refine ⟨_, rfl, va, _, rfl, SqT.of (s1 _ _ hv), ?_⟩
      refine lcV0 ns.zipIdx _ (wkET ns V.int) yPair (fun p => .bl (decide ((if p.1 < 0 then -p.1 else p.1) = (p.2 : Int) + 1))) (by rw [List.length_zipIdx]; exact hl) (by intro _; rfl) (fun H h => SqT.of (h _ _ (s1 _ _ hv))) ?_ ?_
      · intro p hp H2 s2 Qe q
        refine ⟨_, rfl, _, rfl, _, rfl, _, _, rfl, rfl, rfl, ?_⟩
        have q := q H2 (Same.refl _)
        show Qe (.bl (decide (V.int _ = V.int _))) H2
        rw [dec_int]
        exact q
      · intro D2 H2 _ s2 h2
        refine ⟨_, _, _, _, rfl, h2, ?_⟩
        have k := k H2 (s1.trans s2)
        unfold isVal at k
        rw [decide_eq_true hm, Bool.true_and] at k
        exact k
  · rw [decide_eq_false hm]
    refine iteT ?_
    have k := k H (Same.refl _)
    unfold isVal at k
    rw [decide_eq_false hm, Bool.false_and] at k
    exact k
theorem sc_do_hold : FnScope ["bundle", "values", "known", "one", "clause"] ["bundle", "values"] (defScope s_do_hold) := ⟨rfl, rfl, rfl, by decide +kernel, rfl, by decide +kernel, by decide +kernel⟩
theorem ok_do_hold (T : Tx K mg)  : CalF P w K mg base ("do_hold", none) 1 ["bundle", "values"] (sp_do_hold K) := by
  have mg_dict : mg "dict" = none := T.free 58
  have mg_all : mg "all" = none := T.free 55
  have mg_any : mg "any" = none := T.free 56
  refine calF T (d := d_do_hold) 7 rfl sc_do_hold rfl rfl (fun _ _ _ _ _ _ us hl => match us, hl with | [_, _], _ => rfl) (len_do_hold K) ?_
  intro cdv A outer s H vs Q E hr h
  have hu := hu_of hr
  obtain ⟨v, many, as, va, ns, rfl, B, ok, hv, hl, k⟩ := h
  obtain ⟨a, b, rfl, ha, hb⟩ := B.at_
  refine ⟨_, (pss_cons (ps_set (i := 2) sc_do_hold.nd rfl (Or.inr rfl) (pe_callTy (call_dictP rfl) (by rfl) mg_dict bt_dict (pa_cons (pe_lc (own := [("one", 3)]) (g := gName 3) (tt := tYes) rfl sc_do_hold.nd (pi_tupK (K := K) rfl (pv 1)) (blkOk_by (by kernel_rfl)) (fun _ _ _ _ _ => (pg_name (i := 3) sc_do_hold.nd rfl (Or.inl rfl))) (fun _ _ _ _ _ => pts_nil) (fun _ _ _ _ _ => (pe_tup (pa_cons (pv 3) (pa_cons pe_bl pa_nil))))) pa_nil)))
      (pss_one (ps_ret (pe_callB (cr_all2 rfl) (by rfl) mg_all bt_all (pa_cons (pe_lc (own := [("clause", 4)]) (g := gName 4) (tt := tYes) rfl sc_do_hold.nd (pi_tupK (K := K) rfl (pe_ix ix_tup2 (pv 0) pe_int (fun _ _ => rfl))) (blkOk_by (by kernel_rfl)) (fun _ _ _ _ _ => (pg_name (i := 4) sc_do_hold.nd rfl (Or.inl rfl))) (fun _ _ _ _ _ => pts_nil) (fun _ _ _ _ _ => (pe_callB (cr_any2 rfl) (by rfl) mg_any bt_any (pa_cons (pe_lc (own := [("one", 3)]) (g := gName 3) (tt := tYes) rfl sc_do_hold.nd (pi_tupK (K := K) rfl (pv 4)) (blkOk_by (by kernel_rfl)) (fun _ _ _ _ _ => (pg_name (i := 3) sc_do_hold.nd rfl (Or.inl rfl))) (fun _ _ _ _ _ => pts_nil) (fun _ _ _ _ _ => (pe_cmp (pc_din hu (pv 3) (pv 2))))) pa_nil)))) pa_nil))))), ?_⟩
  refine ⟨_, rfl, va, rfl, ⟨_, SqT.of hv⟩, ?_⟩
  refine lcT0 ns _ (wkT ns V.int) yName (fun n => [.int n, .bl true]) hl (by intro _; rfl) (fun H h => SqT.of (h _ _ hv)) ?_ ?_
  · intro n hn H1 s1 Qe q
    exact ⟨_, rfl, by show 2 ≤ sizeLine; decide, fun p hp => q p _ (Same.new hp) upd_same⟩
  · intro D H1 ys _ s1 h1 hp
    obtain ⟨ps, rfl, hps⟩ := paired_dict (K := K) (f := fun n : Int => (Sum.inl n : Key)) (v := fun _ => V.bl true) hp
    refine ⟨D, ps, _, rfl, SqL.of h1, hps, fun d hd => ?_⟩
    have s2 : Same H (upd H1 d (.dK (mergeK [] (ns.map fun n => ((Sum.inl n : Key), V.bl true))))) := s1.trans (Same.new hd)
    refine ⟨_, rfl, _, _, _, _, rfl, rfl, s2 _ _ ha, rfl, b, rfl, ⟨_, SqT.of (s2 _ _ hb)⟩, ?_⟩
    have hl2 : as.length ≤ 30000 := by have := ok.len; rwa [List.length_map] at this
    refine lcV0 as _ (wkT as rf) yName (fun x => .bl (x.2.any fun l => decide (l ∈ ns))) (by omega) (by intro _; rfl) (fun H h => SqT.of (h _ _ (s2 _ _ hb))) ?_ ?_
    · intro x hx H2 s3 Qe q
      have s23 := s2.trans s3
      refine ⟨_, rfl, x.1, rfl, ⟨_, SqT.of (s23 _ _ (B.cls x hx))⟩, ?_⟩
      refine lcV0 x.2 _ (wkT x.2 V.int) yName (fun l => .bl (decide (l ∈ ns))) (ok.short _ (List.mem_map.mpr ⟨x, hx, rfl⟩)) (by intro _; rfl) (fun H h => SqT.of (h _ _ (s23 _ _ (B.cls x hx)))) ?_ ?_
      · intro l hl3 H3 s4 Qe2 q2
        refine ⟨_, rfl, _, rfl, d, _, rfl, DGet.k (k := Sum.inl l) (s4 _ _ (s3 _ _ upd_same)), ?_⟩
        rw [isSome_mergeT]
        exact q2 H3 (Same.refl _)
      · intro D2 H3 _ s4 h3
        exact ⟨_, _, _, _, rfl, h3, q H3 s4⟩
    · intro D2 H2 _ s3 h2
      refine ⟨_, _, _, _, rfl, h2, ?_⟩
      have k := k H2 (s2.trans s3)
      unfold doHold at k
      rw [List.all_map] at k
      exact k
end
end Nt
set_option maxRecDepth 100000
set_option maxHeartbeats 1000000
/-! NtB: the lists of places by literal; clauses in range. -/
namespace Nt
open PySem PySem.Spec PyProof.Rows L2
/-! ### plain -/
theorem asc_pw : ∀ {c : List Int}, asc c = true → c.Pairwise (· < ·)
  | [], _ => .nil
  | [_], _ => List.pairwise_singleton _ _
  | a :: b :: r, h => by
    have h' : (decide (a < b) && asc (b :: r)) = true := h
    rw [Bool.and_eq_true] at h'
    have h1 := of_decide_eq_true h'.1
    have ih := asc_pw h'.2
    refine List.pairwise_cons.mpr ⟨fun y hy => ?_, ih⟩
    rcases List.mem_cons.mp hy with rfl | hy
    · exact h1
    · exact Int.lt_trans h1 ((List.pairwise_cons.mp ih).1 y hy)
theorem pw_asc : ∀ {c : List Int}, c.Pairwise (· < ·) → asc c = true
  | [], _ => rfl
  | [_], _ => rfl
  | a :: b :: r, h => by
    have h1 := List.pairwise_cons.mp h
    show (decide (a < b) && asc (b :: r)) = true
    rw [Bool.and_eq_true]
    exact ⟨decide_eq_true (h1.1 b List.mem_cons_self), pw_asc h1.2⟩
/-- a literal in range -/
def InR (many l : Int) : Prop := l ≠ 0 ∧ -many ≤ l ∧ l ≤ many
theorem InR.neg {many l : Int} (h : InR many l) : InR many (-l) := by unfold InR at *; omega
theorem isCl_iff {many : Int} {c : List Int} : isCl many c = true ↔ (∀ l ∈ c, InR many l) ∧ c.Pairwise (· < ·) := by
  unfold isCl
  rw [Bool.and_eq_true, List.all_eq_true]
  constructor
  · rintro ⟨h1, h2⟩
    refine ⟨fun l hl => ?_, asc_pw h2⟩
    have h := h1 l hl
    rw [Bool.and_eq_true] at h
    have a := of_decide_eq_true h.1
    have b := of_decide_eq_true h.2
    unfold InR
    split at a <;> split at b <;> omega
  · rintro ⟨h1, h2⟩
    refine ⟨fun l hl => ?_, pw_asc h2⟩
    have h := h1 l hl
    unfold InR at h
    rw [Bool.and_eq_true]
    refine ⟨decide_eq_true ?_, decide_eq_true ?_⟩ <;> split <;> omega
theorem pw_nodup {c : List Int} (h : c.Pairwise (· < ·)) : c.Nodup := h.imp fun h => by omega
/-- all literals in range -/
def lits (many : Int) : List Int := (List.range (2 * many.toNat + 1)).map fun (i : Nat) => (i : Int) - many
theorem mem_lits {many l : Int} (h0 : 0 ≤ many) (h : InR many l) : l ∈ lits many := by
  unfold InR at h
  exact List.mem_map.mpr ⟨(l + many).toNat, List.mem_range.mpr (by omega), by omega⟩
theorem len_lits {many : Int} {c : List Int} (h0 : 0 ≤ many) (nd : c.Nodup) (h : ∀ l ∈ c, InR many l) : c.length ≤ 2 * many.toNat + 1 := by
  have := List.Nodup.length_le_of_subset nd (l₂ := lits many) fun l hl => mem_lits h0 (h l hl)
  unfold lits at this
  rw [List.length_map, List.length_range] at this
  exact this
theorem isCl_len {many : Int} {c : List Int} (h0 : 0 ≤ many) (h : isCl many c = true) : c.length ≤ 2 * many.toNat + 1 := len_lits h0 (pw_nodup (isCl_iff.mp h).2) (isCl_iff.mp h).1
/-- the places of the clauses with l -/
def occ (l : Int) (cs : List (List Int)) : List Int := (cs.zipIdx.filter fun p => decide (l ∈ p.1)).map fun p => (p.2 : Int)
theorem occ_snoc (l : Int) (cs : List (List Int)) (c : List Int) : occ l (cs ++ [c]) = occ l cs ++ if l ∈ c then [(cs.length : Int)] else [] := by
  unfold occ
  rw [List.zipIdx_append, List.filter_append, List.map_append]
  congr 1
  by_cases h : l ∈ c
  · simp [h]
  · simp [h]
theorem occ_nil (l : Int) (cs : List (List Int)) : occ l (cs ++ [[]]) = occ l cs := by
  rw [occ_snoc, if_neg (by simp), List.append_nil]
theorem occ_len (l : Int) (cs : List (List Int)) : (occ l cs).length ≤ cs.length := by
  unfold occ
  rw [List.length_map]
  refine Nat.le_trans (List.length_filter_le _ _) ?_
  rw [List.length_zipIdx]
  exact Nat.le_refl _
theorem mem_occ {l : Int} {cs : List (List Int)} {i : Int} : i ∈ occ l cs ↔ ∃ (j : Nat) (c : List Int), i = j ∧ cs[j]? = some c ∧ l ∈ c := by
  unfold occ
  rw [List.mem_map]
  constructor
  · rintro ⟨⟨c, j⟩, h, rfl⟩
    rw [List.mem_filter] at h
    obtain ⟨h1, h2⟩ := h
    exact ⟨j, c, rfl, List.mem_zipIdx_iff_getElem?.mp h1, of_decide_eq_true h2⟩
  · rintro ⟨j, c, rfl, h1, h2⟩
    exact ⟨(c, j), List.mem_filter.mpr ⟨List.mem_zipIdx_iff_getElem?.mpr h1, decide_eq_true h2⟩, rfl⟩
/-! ### on the heap -/
/-- the dict by at b: its lists stand apart from the frame H0 and from ex -/
structure ByAt (H0 H : Hp) (b : Addr) (ex : List Addr) (kvs : List (Key × V)) (cs : List (List Int)) : Prop where
  at_ : H b = some (.dK kvs)
  get : ∀ l : Int, (valV kvs (.inl l) = none ∧ occ l cs = []) ∨ ∃ q, valV kvs (.inl l) = some (.ref q) ∧ H q = some (.lst ((occ l cs).map V.int)) ∧ H0 q = none ∧ q ∉ ex
  inj : ∀ l m q, valV kvs (.inl l) = some (.ref q) → valV kvs (.inl m) = some (.ref q) → l = m
  len : kvs.length ≤ (cs.map List.length).sum
theorem ByAt.start {H0 H : Hp} {b : Addr} {ex : List Addr} (h : H b = some (.dK [])) : ByAt H0 H b ex [] [] := ⟨h, fun l => .inl ⟨rfl, rfl⟩, fun _ _ _ h => (by cases h), Nat.le_refl _⟩
theorem ByAt.open_ {H0 H : Hp} {b : Addr} {ex : List Addr} {kvs : List (Key × V)} {cs : List (List Int)} (B : ByAt H0 H b ex kvs cs) : ByAt H0 H b ex kvs (cs ++ [[]]) :=
  ⟨B.at_, fun l => by rw [occ_nil]; exact B.get l, B.inj, by rw [List.map_append, List.sum_append]; exact Nat.le_trans B.len (Nat.le_add_right _ _)⟩
/-- what is not one of its objects may change -/
theorem ByAt.keep {H0 H H' : Hp} {b : Addr} {ex : List Addr} {kvs : List (Key × V)} {cs : List (List Int)} (B : ByAt H0 H b ex kvs cs) (hb : H' b = H b) (h : ∀ q xs, H q = some (.lst xs) → q ∉ ex → H0 q = none → H' q = H q) : ByAt H0 H' b ex kvs cs :=
  ⟨hb.trans B.at_, fun l => (B.get l).imp id fun ⟨q, h1, h2, h3, h4⟩ => ⟨q, h1, (h q _ h2 h4 h3).trans h2, h3, h4⟩, B.inj, B.len⟩
theorem ByAt.same {H0 H H' : Hp} {b : Addr} {ex : List Addr} {kvs : List (Key × V)} {cs : List (List Int)} (B : ByAt H0 H b ex kvs cs) (s : Same H H') : ByAt H0 H' b ex kvs cs :=
  ⟨s _ _ B.at_, fun l => (B.get l).imp id fun ⟨q, h1, h2, h3, h4⟩ => ⟨q, h1, s _ _ h2, h3, h4⟩, B.inj, B.len⟩
/-- another frame that knows none of its objects -/
theorem ByAt.frame {H0 H1 H : Hp} {b : Addr} {ex ey : List Addr} {kvs : List (Key × V)} {cs : List (List Int)} (B : ByAt H0 H b ex kvs cs) (h : ∀ q xs, H q = some (.lst xs) → q ∉ ex → H0 q = none → H1 q = none ∧ q ∉ ey) : ByAt H1 H b ey kvs cs :=
  ⟨B.at_, fun l => (B.get l).imp id fun ⟨q, h1, h2, h3, h4⟩ => ⟨q, h1, h2, (h q _ h2 h4 h3).1, (h q _ h2 h4 h3).2⟩, B.inj, B.len⟩
section
variable {H0 H H' : Hp} {b : Addr} {ex : List Addr} {kvs : List (Key × V)} {cs : List (List Int)} {don : List Int} {a : Int}
theorem len_step (h : kvs.length ≤ ((cs ++ [don]).map List.length).sum) : kvs.length + 1 ≤ ((cs ++ [don ++ [a]]).map List.length).sum := by
  simp only [List.map_append, List.sum_append, List.map_cons, List.map_nil, List.sum_cons, List.sum_nil, List.length_append, List.length_cons, List.length_nil] at h ⊢
  omega
/-- the literal's list is there: the place is put behind -/
theorem ByAt.old (B : ByAt H0 H b ex kvs (cs ++ [don])) (hd : a ∉ don) {v : V} (hv : valV kvs (.inl a) = some v) : ∃ q xs, v = .ref q ∧ H q = some (.lst xs) ∧ xs.length ≤ cs.length + 1 ∧ q ∉ ex ∧ H0 q = none ∧
    ∀ H', Same H H' → ByAt H0 (upd H' q (.lst (xs ++ [.int cs.length]))) b ex kvs (cs ++ [don ++ [a]]) := by
  rcases B.get a with ⟨h, _⟩ | ⟨q, h1, h2, h3, h4⟩
  · rw [h] at hv; cases hv
  · rw [h1] at hv
    cases hv
    refine ⟨q, _, rfl, h2, by rw [List.length_map]; refine Nat.le_trans (occ_len _ _) ?_; simp, h4, h3, fun H' s => ⟨?_, fun l => ?_, B.inj, ?_⟩⟩
    · rw [upd_ne (ne_of B.at_ h2 (by intro z; cases z))]; exact s _ _ B.at_
    · by_cases e : l = a
      · subst e
        refine .inr ⟨q, h1, ?_, h3, h4⟩
        rw [upd_same, occ_snoc l cs don, if_neg hd, List.append_nil, occ_snoc l cs (don ++ [l]), if_pos (by simp), List.map_append]; rfl
      · have eo : occ l (cs ++ [don ++ [a]]) = occ l (cs ++ [don]) := by
          rw [occ_snoc, occ_snoc]
          have : l ∈ don ++ [a] ↔ l ∈ don := by simp [e]
          simp only [this]
        rw [eo]
        rcases B.get l with h | ⟨r, k1, k2, k3, k4⟩
        · exact .inl h
        · refine .inr ⟨r, k1, ?_, k3, k4⟩
          rw [upd_ne fun (z : r = q) => e (B.inj l a q (by rw [← z]; exact k1) h1)]
          exact s _ _ k2
    · exact Nat.le_of_succ_le (len_step B.len)
/-- a new list -/
theorem ByAt.new (B : ByAt H0 H b ex kvs (cs ++ [don])) (hd : a ∉ don) (hn : valV kvs (.inl a) = none) {d : Addr} (h0 : H d = none) (hf : H0 d = none) (he : d ∉ ex) {H' : Hp} (s : Same H H') :
    ByAt H0 (upd (upd H' b (.dK (putK kvs (.inl a) (.ref d)))) d (.lst [.int cs.length])) b ex (putK kvs (.inl a) (.ref d)) (cs ++ [don ++ [a]]) := by
  have hbd : b ≠ d := ne_of_none B.at_ h0
  have hno : ∀ l, valV kvs (.inl l) ≠ some (.ref d) := by
    intro l z
    rcases B.get l with ⟨h, _⟩ | ⟨q, h1, h2, _⟩
    · rw [h] at z; cases z
    · rw [h1] at z; cases z
      rw [h0] at h2; cases h2
  refine ⟨by rw [upd_ne hbd, upd_same], fun l => ?_, fun l m q => ?_, Nat.le_trans (length_putK _ _ _) (len_step B.len)⟩
  · rw [valV_put]
    by_cases e : l = a
    · subst e
      rw [if_pos rfl]
      refine .inr ⟨d, rfl, ?_, hf, he⟩
      rw [upd_same, occ_snoc, if_pos (by simp)]
      rcases B.get l with ⟨_, h⟩ | ⟨q, h1, _⟩
      · rw [occ_snoc, if_neg hd, List.append_nil] at h
        rw [h]; rfl
      · rw [hn] at h1; cases h1
    · rw [if_neg fun z => e (Sum.inl.inj z)]
      have eo : occ l (cs ++ [don ++ [a]]) = occ l (cs ++ [don]) := by
        rw [occ_snoc, occ_snoc]
        have : l ∈ don ++ [a] ↔ l ∈ don := by simp [e]
        simp only [this]
      rw [eo]
      rcases B.get l with h | ⟨r, k1, k2, k3, k4⟩
      · exact .inl h
      · refine .inr ⟨r, k1, ?_, k3, k4⟩
        rw [upd_ne (ne_of_none k2 h0), upd_ne (ne_of k2 B.at_ (by intro z; cases z))]
        exact s _ _ k2
  · rw [valV_put, valV_put]
    intro h1 h2
    by_cases e1 : l = a
    · by_cases e2 : m = a
      · rw [e1, e2]
      · rw [if_pos (by rw [e1])] at h1
        rw [if_neg fun z => e2 (Sum.inl.inj z)] at h2
        cases h1
        exact absurd h2 (hno m)
    · rw [if_neg fun z => e1 (Sum.inl.inj z)] at h1
      by_cases e2 : m = a
      · rw [if_pos (by rw [e2])] at h2
        cases h2
        exact absurd h1 (hno l)
      · rw [if_neg fun z => e2 (Sum.inl.inj z)] at h2
        exact B.inj _ _ _ h1 h2
end
end Nt
set_option maxRecDepth 100000
set_option maxHeartbeats 1000000
/-! NtU: Units. -/
namespace Nt
open PySem PySem.Spec PyProof.Rows L2
/-! ### plain -/
def occP (l : Int) (as : List Cl) : List (Int × Cl) := (as.zipIdx.filter fun p => decide (l ∈ p.1.2)).map fun p => ((p.2 : Int), p.1)
def sgP (as : List Cl) : List (Int × Cl) := (as.zipIdx.filter fun p => decide (p.1.2.length < 2)).map fun p => ((p.2 : Int), p.1)
theorem occP_fst (l : Int) (as : List Cl) : (occP l as).map (·.1) = occ l (as.map (·.2)) := by
  unfold occP occ
  rw [List.map_map, List.zipIdx_map, List.filter_map, List.map_map]
  rfl
theorem mem_occP {l : Int} {as : List Cl} {p : Int × Cl} : p ∈ occP l as ↔ ∃ j : Nat, p.1 = j ∧ as[j]? = some p.2 ∧ l ∈ p.2.2 := by
  unfold occP
  rw [List.mem_map]
  constructor
  · rintro ⟨⟨c, j⟩, h, rfl⟩
    rw [List.mem_filter] at h
    exact ⟨j, rfl, List.mem_zipIdx_iff_getElem?.mp h.1, of_decide_eq_true h.2⟩
  · rintro ⟨j, h1, h2, h3⟩
    exact ⟨(p.2, j), List.mem_filter.mpr ⟨List.mem_zipIdx_iff_getElem?.mpr h2, decide_eq_true h3⟩, by rw [← h1]⟩
theorem mem_sgP {as : List Cl} {p : Int × Cl} : p ∈ sgP as ↔ ∃ j : Nat, p.1 = j ∧ as[j]? = some p.2 ∧ p.2.2.length < 2 := by
  unfold sgP
  rw [List.mem_map]
  constructor
  · rintro ⟨⟨c, j⟩, h, rfl⟩
    rw [List.mem_filter] at h
    exact ⟨j, rfl, List.mem_zipIdx_iff_getElem?.mp h.1, of_decide_eq_true h.2⟩
  · rintro ⟨j, h1, h2, h3⟩
    exact ⟨(p.2, j), List.mem_filter.mpr ⟨List.mem_zipIdx_iff_getElem?.mpr h2, decide_eq_true h3⟩, by rw [← h1]⟩
theorem sgP_snoc (as : List Cl) (c : Cl) : (sgP (as ++ [c])).map (·.1) = (sgP as).map (·.1) ++ if c.2.length < 2 then [(as.length : Int)] else [] := by
  unfold sgP
  rw [List.zipIdx_append, List.filter_append, List.map_append, List.map_append]
  congr 1
  by_cases h : c.2.length < 2
  · simp [h]
  · simp [h]
theorem sgP_len (as : List Cl) : (sgP as).length ≤ as.length := by
  unfold sgP
  rw [List.length_map]
  refine Nat.le_trans (List.length_filter_le _ _) ?_
  rw [List.length_zipIdx]
  exact Nat.le_refl _
theorem occP_len (l : Int) (as : List Cl) : (occP l as).length ≤ as.length := by
  unfold occP
  rw [List.length_map]
  refine Nat.le_trans (List.length_filter_le _ _) ?_
  rw [List.length_zipIdx]
  exact Nat.le_refl _
/-- the sum of the lengths -/
theorem sum_len : ∀ {cs : List (List Int)} {n : Nat}, (∀ c ∈ cs, c.length ≤ n) → (cs.map List.length).sum ≤ n * cs.length
  | [], n, _ => Nat.zero_le _
  | c :: r, n, h => by
    have h1 := h c List.mem_cons_self
    have ih := sum_len (cs := r) fun x hx => h x (List.mem_cons_of_mem _ hx)
    rw [List.map_cons, List.sum_cons, List.length_cons, Nat.mul_add, Nat.mul_one]
    omega
theorem at_cls {as : List Cl} {j : Nat} {c : Cl} (h : as[j]? = some c) : atI (as.map rf) (j : Int) = some (rf c) := by
  obtain ⟨h1, h2⟩ := List.getElem?_eq_some_iff.mp h
  unfold atI
  have e : ixN (as.map rf).length (j : Int) = some j := by
    unfold ixN
    rw [List.length_map]
    have h3 : ¬ ((j : Int) < 0) := by omega
    have h4 : ¬ ((as.length : Int) ≤ (j : Int)) := by omega
    simp [h3, h1]
  rw [e]
  show (as.map rf)[j]? = _
  rw [List.getElem?_map, h]; rfl
/-! ### the object -/
/-- Units at p: the clauses as; H0: what is not its own -/
structure UAt (K : PySem.W.Frag) (H0 H : Hp) (p : Addr) (many : Int) (as : List Cl) : Prop where
  same : Same H0 H
  cls : CLs H0 as
  lo : 0 ≤ many
  hi : many ≤ 30
  cl : ∀ x ∈ as, isCl many x.2 = true
  len : as.length ≤ 100000
  own : ∃ dx a b c kvs, H0 p = none ∧ H0 a = none ∧ H0 b = none ∧ H0 c = none ∧ a ≠ c ∧ H p = some (.ins (He.ga K "Units") dx [("clauses", .ref a), ("by", .ref b), ("single", .ref c)]) ∧
    H a = some (.lst (as.map rf)) ∧ H c = some (.lst ((sgP as).map fun x => .int x.1)) ∧ ByAt H0 H b [a, c] kvs (as.map (·.2))
theorem UAt.grow {K : PySem.W.Frag} {H0 H H' : Hp} {p : Addr} {many : Int} {as : List Cl} (U : UAt K H0 H p many as) (s : Same H H') : UAt K H0 H' p many as := by
  obtain ⟨dx, a, b, c, kvs, h1, h2, h3, h4, h5, h6, h7, h8, h9⟩ := U.own
  exact ⟨U.same.trans s, U.cls, U.lo, U.hi, U.cl, U.len, dx, a, b, c, kvs, h1, h2, h3, h4, h5, s _ _ h6, s _ _ h7, s _ _ h8, h9.same s⟩
/-- a walk over a list or a tuple, whichever stands there -/
theorem seqGo {α : Type} {K : PySem.W.Frag} {tl : TE} {σ : L2.St} {H : Hp} {R : It → Hp → Prop} {g : Addr} (as : List α) (f : α → V) (ht : ∀ Q : VK, Q (.ref g) H → tl σ H Q) (h : H g = some (.lst (as.map f)) ∨ H g = some (.tup (as.map f)))
    (k : ∀ J G, Walk J as.length G (YN as f) → (∀ H', Same H H' → G H') → R J H) : iOr (iList K tl) (iTup K tl) σ H R := by
  rcases h with h | h
  · exact .inl (ht _ ⟨g, rfl, ⟨_, SqL.of h⟩, k _ _ (wkL as f) fun H' s => SqL.of (s _ _ h)⟩)
  · exact .inr (ht _ ⟨g, rfl, ⟨_, SqT.of h⟩, k _ _ (wkT as f) fun H' s => SqT.of (s _ _ h)⟩)
/-! ### promises -/
def leftOf (S c : List Int) : Option (List Int) := if c.any (fun l => decide (l ∈ S)) then none else some (c.filter fun l => decide (-l ∉ S))
def sp_Units_left_of (K : PySem.W.Frag) : Sp := fun vs H Q _ => ∃ (p : V) (c d : Addr) (ns S : List Int) (kvs : List (Key × V)), vs = [p, .ref c, .ref d] ∧ H c = some (.tup (ns.map V.int)) ∧ ns.length ≤ 100 ∧ H d = some (.dK kvs) ∧ (∀ l : Int, (valV kvs (.inl l)).isSome = decide (l ∈ S)) ∧
  (leftOf S ns = none → ∀ H', Same H H' → Q .non H') ∧ ∀ r, leftOf S ns = some r → ∀ H' q, Same H H' → H q = none → H' q = some (.lst (r.map V.int)) → Q (.ref q) H'
theorem len_Units_left_of (K : PySem.W.Frag) : ∀ vs H Q E, sp_Units_left_of K vs H Q E → vs.length = 3 := by
  rintro vs H Q E ⟨p, c, d, ns, S, kvs, rfl, _⟩; rfl
def sp_Units_put (K : PySem.W.Frag) : Sp := fun vs H Q _ => ∃ (p : Addr) (H0 : Hp) (many : Int) (as : List Cl) (c : Cl), vs = [.ref p, rf c] ∧ UAt K H0 H p many as ∧ H0 c.1 = some (.tup (c.2.map V.int)) ∧ isCl many c.2 = true ∧ as.length < 100000 ∧
  ∀ H', UAt K H0 H' p many (as ++ [c]) → Q .non H'
theorem len_Units_put (K : PySem.W.Frag) : ∀ vs H Q E, sp_Units_put K vs H Q E → vs.length = 2 := by
  rintro vs H Q E ⟨p, H0, many, as, c, rfl, _⟩; rfl
def sp_Units_init (K : PySem.W.Frag) : Sp := fun vs H Q _ => ∃ (p v : Addr) (dx : Addr) (H0 : Hp) (many : Int) (as : List Cl), vs = [.ref p, .ref v] ∧ Same H0 H ∧ H0 p = none ∧ H p = some (.ins (He.ga K "Units") dx []) ∧ (H0 v = some (.lst (as.map rf)) ∨ H0 v = some (.tup (as.map rf))) ∧ CLs H0 as ∧ 0 ≤ many ∧ many ≤ 30 ∧ (∀ x ∈ as, isCl many x.2 = true) ∧ as.length ≤ 100000 ∧
  ∀ H', UAt K H0 H' p many as → Q .non H'
theorem len_Units_init (K : PySem.W.Frag) : ∀ vs H Q E, sp_Units_init K vs H Q E → vs.length = 2 := by
  rintro vs H Q E ⟨p, v, dx, H0, many, as, rfl, _⟩; rfl
def sp_Units_run (K : PySem.W.Frag) : Sp := fun vs H Q _ => ∃ (p g : Addr) (H0 : Hp) (many : Int) (as : List Cl) (gs : List Int), vs = [.ref p, .ref g] ∧ UAt K H0 H p many as ∧ (H g = some (.lst (gs.map V.int)) ∨ H g = some (.tup (gs.map V.int))) ∧ (∀ l ∈ gs, InR many l) ∧ gs.length ≤ 1000 ∧
  ∀ H' t d S o ov, Same H H' → H' t = some (.tup [.ref d, ov]) → H' d = some (.dK (S.map fun l => (.inl l, .bl true))) → ((o = none ∧ ov = .non) ∨ ∃ q c, o = some c ∧ ov = .ref q ∧ H' q = some (.tup (c.map V.int))) → RunOk (as.map (·.2)) gs S o → (∀ l ∈ S, InR many l) → Q (.ref t) H'
theorem len_Units_run (K : PySem.W.Frag) : ∀ vs H Q E, sp_Units_run K vs H Q E → vs.length = 2 := by
  rintro vs H Q E ⟨p, g, H0, many, as, gs, rfl, _⟩; rfl
theorem valV_true (S : List Int) (l : Int) : (valV (S.map fun l => ((Sum.inl l : Key), V.bl true)) (.inl l)).isSome = decide (l ∈ S) := by
  rw [← valV_any, List.any_map]
  induction S with
  | nil => rfl
  | cons n r ih =>
    rw [List.any_cons, ih]
    by_cases h : n = l
    · subst h; simp
    · have h2 : ¬ l = n := fun z => h z.symm
      simp [h, h2]
theorem putK_true {S : List Int} {l : Int} (h : l ∉ S) : putK (S.map fun l => ((Sum.inl l : Key), V.bl true)) (.inl l) (.bl true) = (S ++ [l]).map fun l => ((Sum.inl l : Key), V.bl true) := by
  rw [putK_new, List.map_append]; · rfl
  have e := valV_true S l
  rw [decide_eq_false h] at e
  cases q : valV (S.map fun l => ((Sum.inl l : Key), V.bl true)) (.inl l) with
  | none => rfl
  | some v => rw [q] at e; cases e
theorem leftOf_none {S c : List Int} (h : leftOf S c = none) : Quiet S c := by
  unfold leftOf at h
  split at h
  · rename_i e
    obtain ⟨l, h1, h2⟩ := List.any_eq_true.mp e
    exact .inl ⟨l, h1, of_decide_eq_true h2⟩
  · cases h
theorem leftOf_some {S c r : List Int} (h : leftOf S c = some r) : (∀ l ∈ c, l ∉ S) ∧ r = c.filter fun l => decide (-l ∉ S) := by
  unfold leftOf at h
  split at h
  · cases h
  · rename_i e
    refine ⟨fun l hl hs => e (List.any_eq_true.mpr ⟨l, hl, decide_eq_true hs⟩), (Option.some.inj h).symm⟩
theorem leftOf_two {S c r : List Int} (nd : c.Nodup) (h : leftOf S c = some r) (h2 : 2 ≤ r.length) : Quiet S c := by
  obtain ⟨_, hr⟩ := leftOf_some h
  match r, hr, h2 with
  | a :: b :: r, hr, _ =>
    have hn : (a :: b :: r).Nodup := hr ▸ nd.filter _
    have ha : a ∈ c.filter fun l => decide (-l ∉ S) := hr ▸ by simp
    have hb : b ∈ c.filter fun l => decide (-l ∉ S) := hr ▸ by simp
    rw [List.mem_filter] at ha hb
    refine .inr ⟨a, ha.1, b, hb.1, ?_, of_decide_eq_true ha.2, of_decide_eq_true hb.2⟩
    intro z
    subst z
    simp at hn
theorem leftOf_one {S c : List Int} {l : Int} (h : leftOf S c = some [l]) : l ∈ c ∧ l ∉ S ∧ -l ∉ S ∧ ∀ y ∈ c, y ≠ l → -y ∈ S := by
  obtain ⟨h1, hr⟩ := leftOf_some h
  have hl : l ∈ c.filter fun l => decide (-l ∉ S) := hr ▸ by simp
  rw [List.mem_filter] at hl
  refine ⟨hl.1, h1 l hl.1, of_decide_eq_true hl.2, fun y hy e => ?_⟩
  by_cases z : -y ∈ S
  · exact z
  · have : y ∈ c.filter fun l => decide (-l ∉ S) := List.mem_filter.mpr ⟨hy, decide_eq_true z⟩
    rw [← hr] at this
    exact absurd (List.mem_singleton.mp this) e
theorem leftOf_nil {S c : List Int} (h : leftOf S c = some []) : ∀ l ∈ c, -l ∈ S := by
  obtain ⟨h1, hr⟩ := leftOf_some h
  intro y hy
  by_cases z : -y ∈ S
  · exact z
  · have : y ∈ c.filter fun l => decide (-l ∉ S) := List.mem_filter.mpr ⟨hy, decide_eq_true z⟩
    rw [← hr] at this
    cases this
section
variable {P : Program} {w : World} {K : PySem.W.Frag} {mg : Str → Option Value} {base : Heap}
theorem sc_Units_left_of : FnScope ["self", "clause", "sure", "one"] ["self", "clause", "sure"] (defScope s_Units_left_of) := ⟨rfl, rfl, rfl, by decide +kernel, rfl, by decide +kernel, by decide +kernel⟩
theorem ok_Units_left_of (T : Tx K mg)  : CalF P w K mg base ("Units", some "left_of") 1 ["self", "clause", "sure"] (sp_Units_left_of K) := by
  have mg_any : mg "any" = none := T.free 56
  refine calF T (d := d_Units_left_of) 11 rfl sc_Units_left_of rfl rfl (fun _ _ _ _ _ _ us hl => match us, hl with | [_, _, _], _ => rfl) (len_Units_left_of K) ?_
  intro cdv A outer s H vs Q E hr h
  have hu := hu_of hr
  obtain ⟨p, c, d, ns, S, kvs, rfl, hc, hl, hd, hS, k1, k2⟩ := h
  refine ⟨_, (pss_cons (ps_if (pt_val (pe_callB (cr_any2 rfl) (by rfl) mg_any bt_any (pa_cons (pe_lc (own := [("one", 3)]) (g := gName 3) (tt := tYes) rfl sc_Units_left_of.nd (pi_tupK (K := K) rfl (pv 1)) (blkOk_by (by kernel_rfl)) (fun _ _ _ _ _ => (pg_name (i := 3) sc_Units_left_of.nd rfl (Or.inl rfl))) (fun _ _ _ _ _ => pts_nil) (fun _ _ _ _ _ => (pe_cmp (pc_din hu (pv 3) (pv 2))))) pa_nil))) (pss_one (ps_ret pe_non)) pss_nil)
      (pss_one (ps_ret (pe_lc (own := [("one", 3)]) (g := gName 3) rfl sc_Units_left_of.nd (pi_tupK (K := K) rfl (pv 1)) (blkOk_by (by kernel_rfl)) (fun _ _ _ _ _ => (pg_name (i := 3) sc_Units_left_of.nd rfl (Or.inl rfl))) (fun _ _ _ _ _ => (pts_one (pt_cmp (pc_dnotin hu (pe_op op_sub pe_int (pv 3)) (pv 2))))) (fun _ _ _ _ _ => (pv 3)))))), ?_⟩
  refine ⟨_, rfl, c, rfl, ⟨_, SqT.of hc⟩, ?_⟩
  refine lcV0 ns _ (wkT ns V.int) yName (fun l => .bl (decide (l ∈ S))) (by omega) (by intro _; rfl) (fun H h => SqT.of (h _ _ hc)) ?_ ?_
  · intro l hl H1 s1 Qe q
    refine ⟨_, rfl, _, rfl, d, _, rfl, DGet.k (k := Sum.inl l) (s1 _ _ hd), ?_⟩
    rw [hS]
    exact q _ (Same.refl _)
  · intro D H1 _ s1 h1
    refine ⟨_, _, _, _, rfl, h1, _, rfl, ?_⟩
    unfold leftOf at k1 k2
    cases e : ns.any fun l => decide (l ∈ S) with
    | true =>
      rw [e] at k1
      exact iteT (k1 rfl H1 s1)
    | false =>
      rw [e] at k2
      refine iteF ?_
      refine ⟨_, rfl, c, rfl, ⟨_, SqT.of (s1 _ _ hc)⟩, ?_⟩
      refine lcV ns _ (wkT ns V.int) yName (fun l => decide (-l ∉ S)) V.int (by omega) (by intro _; rfl) (fun H h => SqT.of (h _ _ (s1 _ _ hc))) ?_ ?_ ?_
      · intro l hl H2 s2 Qb q
        refine ⟨_, rfl, _, _, rfl, rfl, _, rfl, d, _, rfl, DGet.k (k := Sum.inl (0 - l)) (s2 _ _ (s1 _ _ hd)), ?_⟩
        rw [hS, Int.zero_sub]
        have q := q _ (Same.refl _)
        by_cases e2 : -l ∈ S
        · rw [decide_eq_false (fun z => z e2)] at q
          rw [decide_eq_true e2]; exact ⟨_, rfl, q⟩
        · rw [decide_eq_true e2] at q
          rw [decide_eq_false e2]; exact ⟨_, rfl, q⟩
      · intro l hl H2 _ s2 Qe q
        exact ⟨_, rfl, q _ (Same.refl _)⟩
      · intro D2 H2 n2 s2 h2
        exact k2 _ rfl H2 D2 (s1.trans s2) (s1.free n2) h2
theorem sc_Units_put : FnScope ["self", "clause", "place", "one"] ["self", "clause"] (defScope s_Units_put) := ⟨rfl, rfl, rfl, by decide +kernel, rfl, by decide +kernel, by decide +kernel⟩
theorem ok_Units_put (T : Tx K mg)  : CalF P w K mg base ("Units", some "put") 1 ["self", "clause"] (sp_Units_put K) := by
  have mg_len : mg "len" = none := T.free 62
  have cl_Units : Cls K (He.ga K "Units") := T.cls 80
  have no_Units_clauses : NoAttr K (He.ga K "Units") "clauses" := T.noat 87
  have no_Units_single : NoAttr K (He.ga K "Units") "single" := T.noat 88
  have no_Units_by : NoAttr K (He.ga K "Units") "by" := T.noat 86
  refine calF T (d := d_Units_put) 9 rfl sc_Units_put rfl rfl (fun _ _ _ _ _ _ us hl => match us, hl with | [_, _], _ => rfl) (len_Units_put K) ?_
  intro cdv A outer s H vs Q E hr h
  have hu := hu_of hr
  obtain ⟨p, H0, many, as, c, rfl, U, hcc, hcl, hl, k⟩ := h
  obtain ⟨dx, a, b, cc, kvs, n1, n2, n3, n4, nac, hp, ha, hc, B⟩ := U.own
  refine ⟨_, (pss_cons (ps_set (i := 2) sc_Units_put.nd rfl (Or.inl rfl) (pe_callB call_len2 (by rfl) mg_len bt_len (pa_cons (pe_fld2 cl_Units no_Units_clauses (pv 0)) pa_nil)))
      (pss_cons (ps_expr (pe_bm PySem.F.plainAttrs_list PySem.F.slot_list_append PySem.F.type_list_append mt_append (pe_fld2 cl_Units no_Units_clauses (pv 0)) (pa_cons (pv 1) pa_nil)))
      (pss_cons (ps_for PassesOwn.never rfl (pi_tupK (K := K) rfl (pv 1)) (pg_name (i := 3) sc_Units_put.nd rfl (Or.inl rfl)) (pss_one (ps_expr (pe_bm PySem.F.plainAttrs_list PySem.F.slot_list_append PySem.F.type_list_append mt_append (pe_dsetd (pe_fld2 cl_Units no_Units_by (pv 0)) (pv 3) (pe_lst pa_nil) ⟨rfl, rfl, rfl, rfl⟩) (pa_cons (pv 2) pa_nil)))))
      (pss_one (ps_if (pt_cmpR op_lt (pe_callB call_len2 (by rfl) mg_len bt_len (pa_cons (pv 1) pa_nil)) pe_int (nomark _)) (pss_one (ps_expr (pe_bm PySem.F.plainAttrs_list PySem.F.slot_list_append PySem.F.type_list_append mt_append (pe_fld2 cl_Units no_Units_single (pv 0)) (pa_cons (pv 2) pa_nil)))) pss_nil))))), ?_⟩
  refine ⟨_, rfl, _, _, _, _, rfl, hp, rfl, a, _, rfl, .inl ha, ?_⟩
  have hpa : p ≠ a := ne_of hp ha (by intro z; cases z)
  have hba : b ≠ a := ne_of B.at_ ha (by intro z; cases z)
  refine ⟨_, rfl, _, _, _, _, rfl, hp, rfl, .inl ⟨rfl, _, SqL.of ha⟩, _, rfl, a, _, _, rfl, rfl, ha, by rw [List.length_map]; exact sz_lt hl, ?_⟩
  have S1 : Same H0 (upd H a (.lst (as.map rf ++ [rf c]))) := Same.mut U.same n2
  have B1 : ByAt H0 (upd H a (.lst (as.map rf ++ [rf c]))) b [a, cc] kvs (as.map (·.2) ++ [[]]) := B.open_.keep (upd_ne hba) fun q xs h1 h2 h3 => upd_ne fun z => h2 (by rw [z]; simp)
  refine ⟨_, rfl, c.1, rfl, ⟨_, SqT.of (S1 _ _ hcc)⟩, ?_⟩
  have hnd := pw_nodup (isCl_iff.mp hcl).2
  have hlc : c.2.length ≤ 61 := Nat.le_trans (isCl_len U.lo hcl) (by have := U.hi; omega)
  refine forA c.2 (fun σ l => σ.set 3 (some (.int l))) (wkT c.2 V.int) (fun σ => yName) (fun don σ H2 => ∃ kvs x, σ = [some (.ref p), some (rf c), some (.int as.length), x] ∧ Same H0 H2 ∧ H2 p = some (.ins (He.ga K "Units") dx [("clauses", .ref a), ("by", .ref b), ("single", .ref cc)]) ∧
    H2 a = some (.lst (as.map rf ++ [rf c])) ∧ H2 cc = some (.lst ((sgP as).map fun x => .int x.1)) ∧ ByAt H0 H2 b [a, cc] kvs (as.map (·.2) ++ [don])) ?_ ?_ ?_ ?_
  · exact ⟨kvs, none, by rw [List.length_map]; rfl, S1, by rw [upd_ne hpa]; exact hp, upd_same, by rw [upd_ne nac.symm]; exact hc, B1⟩
  · rintro l σ H2 ⟨_, _, _, s2, _⟩
    exact SqT.of (s2 _ _ hcc)
  · rintro l x r σ H2 H3 e ⟨kvs2, y, rfl, s2, hp2, ha2, hc2, B2⟩ s3
    have hx : x ∉ l := by
      rw [e, List.nodup_append] at hnd
      exact fun z => hnd.2.2 x z x (by simp) rfl
    have hbl : kvs2.length < sizeLine := by
      have h1 := B2.len
      have h2 : ((as.map (·.2) ++ [l]).map List.length).sum ≤ 61 * (as.map (·.2) ++ [l]).length := sum_len fun z hz => by
        rcases List.mem_append.mp hz with hz | hz
        · obtain ⟨w, hw, rfl⟩ := List.mem_map.mp hz
          exact Nat.le_trans (isCl_len U.lo (U.cl w hw)) (by have := U.hi; omega)
        · rw [List.mem_singleton.mp hz]
          rw [e, List.length_append] at hlc; omega
      simp only [List.length_append, List.length_map, List.length_cons, List.length_nil] at h2
      have : sizeLine = 16777216 := rfl
      omega
    refine ⟨_, rfl, _, _, _, _, rfl, s3 _ _ hp2, rfl, b, rfl, .inl ⟨_, .inl (s3 _ _ B2.at_)⟩, _, rfl, Nat.zero_le _, fun d hd => ?_⟩
    have s3d : Same H2 (upd H3 d (.lst [])) := s3.trans (Same.new hd)
    have S0 : Same H0 (upd H3 d (.lst [])) := s2.trans s3d
    refine ⟨kvs2, .inl x, s3d _ _ B2.at_, rfl, hbl, fun v hv => ?_, fun hn => ?_⟩
    · obtain ⟨q, xs, rfl, hq, hql, hqe, hq0, hB⟩ := B2.old hx hv
      have hpq : p ≠ q := ne_of hp2 hq (by intro z; cases z)
      have haq : a ≠ q := fun z => hqe (by rw [← z]; simp)
      have hcq : cc ≠ q := fun z => hqe (by rw [← z]; simp)
      refine ⟨.inl ⟨rfl, _, SqL.of (s3d _ _ hq)⟩, _, rfl, q, _, _, rfl, rfl, s3d _ _ hq, (by rw [List.length_map] at hql; have : sizeLine = 16777216 := rfl; omega), ?_⟩
      refine ⟨kvs2, _, rfl, Same.mut S0 hq0, by rw [upd_ne hpq]; exact s3d _ _ hp2, by rw [upd_ne haq]; exact s3d _ _ ha2, by rw [upd_ne hcq]; exact s3d _ _ hc2, ?_⟩
      have := hB _ s3d
      rw [List.length_map] at this
      exact this
    · have hd2 : H2 d = none := s3.free hd
      have hd0 : H0 d = none := s2.free hd2
      have hpd : p ≠ d := ne_of_none hp2 hd2
      have had : a ≠ d := ne_of_none ha2 hd2
      have hcd : cc ≠ d := ne_of_none hc2 hd2
      have hpb : p ≠ b := ne_of hp2 B2.at_ (by intro z; cases z)
      have hab : a ≠ b := ne_of ha2 B2.at_ (by intro z; cases z)
      have hcb : cc ≠ b := ne_of hc2 B2.at_ (by intro z; cases z)
      have hdb : d ≠ b := (ne_of_none B2.at_ hd2).symm
      have h1 : upd (upd H3 d (.lst [])) b (.dK (putK kvs2 (.inl x) (.ref d))) d = some (.lst []) := by rw [upd_ne hdb, upd_same]
      refine ⟨.inl ⟨rfl, _, SqL.of h1⟩, _, rfl, d, _, _, rfl, rfl, h1, by decide, ?_⟩
      refine ⟨putK kvs2 (.inl x) (.ref d), _, rfl, Same.mut (Same.mut S0 n3) hd0, ?_, ?_, ?_, ?_⟩
      · rw [upd_ne hpd, upd_ne hpb]; exact s3d _ _ hp2
      · rw [upd_ne had, upd_ne hab]; exact s3d _ _ ha2
      · rw [upd_ne hcd, upd_ne hcb]; exact s3d _ _ hc2
      · have := B2.new hx hn hd2 hd0 (fun z => (List.mem_cons.mp z).elim (fun z => had z.symm) fun z => hcd (List.mem_singleton.mp z).symm) s3d
        rw [List.length_map] at this
        exact this
  · rintro σ H2 ⟨kvs2, y, rfl, s2, hp2, ha2, hc2, B2⟩
    have fin : ∀ H3, Same H0 H3 → H3 p = some (.ins (He.ga K "Units") dx [("clauses", .ref a), ("by", .ref b), ("single", .ref cc)]) → H3 a = some (.lst ((as ++ [c]).map rf)) → H3 cc = some (.lst ((sgP (as ++ [c])).map fun x => .int x.1)) → ByAt H0 H3 b [a, cc] kvs2 ((as ++ [c]).map (·.2)) → Q .non H3 := by
      intro H3 s h1 h2 h3 h4
      refine k H3 ⟨s, fun x hx => ?_, U.lo, U.hi, fun x hx => ?_, by simp; omega, dx, a, b, cc, kvs2, n1, n2, n3, n4, nac, h1, h2, h3, h4⟩
      · rcases List.mem_append.mp hx with hx | hx
        · exact U.cls x hx
        · rw [List.mem_singleton.mp hx]; exact hcc
      · rcases List.mem_append.mp hx with hx | hx
        · exact U.cl x hx
        · rw [List.mem_singleton.mp hx]; exact hcl
    have eq : ∀ ys : List (Int × Cl), (ys.map fun x => V.int x.1) = (ys.map (·.1)).map V.int := fun ys => by rw [List.map_map]; rfl
    refine ⟨_, rfl, c.1, _, rfl, .inr (s2 _ _ hcc), _, _, rfl, rfl, _, rfl, ?_⟩
    refine ite2 (fun h => ?_) (fun h => ?_)
    · have h := of_decide_eq_true h
      rw [List.length_map] at h
      have h' : c.2.length < 2 := by omega
      refine ⟨_, rfl, _, _, _, _, rfl, hp2, rfl, .inl ⟨rfl, _, SqL.of hc2⟩, _, rfl, cc, _, _, rfl, rfl, hc2, by rw [List.length_map]; exact sz_lt (Nat.lt_of_le_of_lt (sgP_len as) hl), ?_⟩
      refine fin _ (Same.mut s2 n4) ?_ ?_ ?_ ?_
      · rw [upd_ne (ne_of hp2 hc2 (by intro z; cases z))]; exact hp2
      · rw [upd_ne nac, ha2, List.map_append]; rfl
      · rw [upd_same, eq, eq, sgP_snoc, if_pos h', List.map_append]; rfl
      · rw [List.map_append]
        exact B2.keep (upd_ne (ne_of B2.at_ hc2 (by intro z; cases z))) fun q xs h1 h2 h3 => upd_ne fun z => h2 (by rw [z]; simp)
    · have h' : ¬ c.2.length < 2 := fun z => h (decide_eq_true (by rw [List.length_map]; omega))
      refine fin _ s2 hp2 ?_ ?_ ?_
      · rw [ha2, List.map_append]; rfl
      · rw [hc2, eq, eq, sgP_snoc, if_neg h', List.append_nil]
      · rw [List.map_append]; exact B2
theorem sc_Units_init : FnScope ["self", "clauses", "clause"] ["self", "clauses"] (defScope s_Units_init) := ⟨rfl, rfl, rfl, by decide +kernel, rfl, by decide +kernel, by decide +kernel⟩
theorem ok_Units_init (T : Tx K mg) (C_Units_put : CalF P w K mg base ("Units", some "put") 1 ["self", "clause"] (sp_Units_put K)) : CalF P w K mg base ("Units", some "__init__") 2 ["self", "clauses"] (sp_Units_init K) := by
  obtain ⟨fd_Units_put, b_Units_put, G_Units_put, kp_Units_put⟩ := C_Units_put
  have mt_Units_put : Meth K (He.ga K "Units") "put" (He.ma K (He.ga K "Units") "put") := T.meth 83
  have cl_Units : Cls K (He.ga K "Units") := T.cls 80
  have no_Units_clauses : NoAttr K (He.ga K "Units") "clauses" := T.noat 87
  have no_Units_by : NoAttr K (He.ga K "Units") "by" := T.noat 86
  have no_Units_single : NoAttr K (He.ga K "Units") "single" := T.noat 88
  refine calF T (d := d_Units_init) 8 rfl sc_Units_init rfl rfl (fun _ _ _ _ _ _ us hl => match us, hl with | [_, _], _ => rfl) (len_Units_init K) ?_
  intro cdv A outer s H vs Q E hr h
  have hu := hu_of hr
  obtain ⟨p, v, dx, H0, many, as, rfl, S0, n0, hp, hv, hcls, lo, hi, hcl, hl, k⟩ := h
  refine ⟨_, (pss_cons (ps_asg (pe_tup (pa_cons (pe_lst pa_nil) (pa_cons pe_dnewK (pa_cons (pe_lst pa_nil) pa_nil)))) (pg_tup rfl (pgs_cons (pg_fld2 cl_Units no_Units_clauses (pv 0)) (pgs_cons (pg_fld2 cl_Units no_Units_by (pv 0)) (pgs_cons (pg_fld2 cl_Units no_Units_single (pv 0)) pgs_nil)))))
      (pss_one (ps_for PassesOwn.never rfl (pi_seqK (K := K) rfl (pv 1)) (pg_name (i := 2) sc_Units_init.nd rfl (Or.inl rfl)) (pss_one (ps_expr (pe_meth (pv 0) cl_Units mt_Units_put G_Units_put (hr.mono (by decide)) b_Units_put .nil pass0 (pa_cons (pv 2) pa_nil))))))), ?_⟩
  have hv1 : H v = some (.lst (as.map rf)) ∨ H v = some (.tup (as.map rf)) := hv.imp (S0 _ _) (S0 _ _)
  refine ⟨Nat.zero_le _, fun a ha0 b hb0 => ⟨Nat.zero_le _, fun c hc0 => ⟨by show 3 ≤ sizeLine; decide, fun t ht0 => ?_⟩⟩⟩
  have sa := Same.new (o := .lst []) ha0
  have sb := Same.new (o := .dK []) hb0
  have sc := Same.new (o := .lst []) hc0
  have st := Same.new (o := .tup [.ref a, .ref b, .ref c]) ht0
  have sct := sc.trans st
  have sbct := sb.trans sct
  have sall := sa.trans sbct
  have h1p := sall _ _ hp
  have h1a := sbct _ _ (upd_same (H := H) (a := a) (o := .lst []))
  have h1b := sct _ _ (upd_same (a := b) (o := .dK []))
  have h1c := st _ _ (upd_same (a := c) (o := .lst []))
  have hap := ne_of h1a h1p (by intro z; cases z)
  have hbp := ne_of h1b h1p (by intro z; cases z)
  have hcp := ne_of h1c h1p (by intro z; cases z)
  have hac : a ≠ c := ne_of_none (sb _ _ (upd_same (H := H) (a := a) (o := .lst []))) hc0
  have na : H0 a = none := S0.free ha0
  have nb : H0 b = none := (S0.trans sa).free hb0
  have nc : H0 c = none := ((S0.trans sa).trans sb).free hc0
  refine ⟨t, _, rfl, SqT.of upd_same, rfl, _, _, rfl, ⟨_, rfl, p, dx, _, rfl, h1p, by decide, _, _, rfl, ⟨_, rfl, p, dx, _, rfl, upd_same, (by show 1 < 1000; decide), _, _, rfl, ⟨_, rfl, p, dx, _, rfl, upd_same, (by show 2 < 1000; decide), rfl, ?_⟩⟩⟩⟩
  have SF := Same.mut (o := .ins (He.ga K "Units") dx (putF "single" (V.ref c) (putF "by" (V.ref b) (putF "clauses" (V.ref a) [])))) (Same.mut (o := .ins (He.ga K "Units") dx (putF "by" (V.ref b) (putF "clauses" (V.ref a) []))) (Same.mut (o := .ins (He.ga K "Units") dx (putF "clauses" (V.ref a) [])) (S0.trans sall) n0) n0) n0
  have hU : UAt K H0 (upd (upd (upd (upd (upd (upd (upd H a (.lst [])) b (.dK [])) c (.lst [])) t (.tup [.ref a, .ref b, .ref c])) p (.ins (He.ga K "Units") dx (putF "clauses" (V.ref a) []))) p (.ins (He.ga K "Units") dx (putF "by" (V.ref b) (putF "clauses" (V.ref a) [])))) p (.ins (He.ga K "Units") dx (putF "single" (V.ref c) (putF "by" (V.ref b) (putF "clauses" (V.ref a) []))))) p many [] := by
    refine ⟨SF, fun x hx => (by cases hx), lo, hi, fun x hx => (by cases hx), Nat.zero_le _, dx, a, b, c, [], n0, na, nb, nc, hac, upd_same, ?_, ?_, .start ?_⟩
    · rw [upd_ne hap, upd_ne hap, upd_ne hap]; exact h1a
    · rw [upd_ne hcp, upd_ne hcp, upd_ne hcp]; exact h1c
    · rw [upd_ne hbp, upd_ne hbp, upd_ne hbp]; exact h1b
  have step : ∀ (J : It) (G : Hp → Prop) (w0 : Walk J as.length G (YN as rf)), (∀ H2, Same H0 H2 → G H2) → ForW J (gName 2) (tDrop (tMeth (He.ga K "Units") "put" (sp_Units_put K) [] E0 (tVar 0) (tCons (tVar 2) tNil))) { nx := fun x H' => Q .non H', rt := Q } [some (.ref p), some (.ref v), none]
      (upd (upd (upd (upd (upd (upd (upd H a (.lst [])) b (.dK [])) c (.lst [])) t (.tup [.ref a, .ref b, .ref c])) p (.ins (He.ga K "Units") dx (putF "clauses" (V.ref a) []))) p (.ins (He.ga K "Units") dx (putF "by" (V.ref b) (putF "clauses" (V.ref a) [])))) p (.ins (He.ga K "Units") dx (putF "single" (V.ref c) (putF "by" (V.ref b) (putF "clauses" (V.ref a) []))))) := by
    intro J G w0 hG
    refine forA as (fun σ x => σ.set 2 (some (rf x))) w0 (fun σ => yName) (fun don σ H2 => ∃ x, σ = [some (.ref p), some (.ref v), x] ∧ UAt K H0 H2 p many don) ⟨none, rfl, hU⟩ (fun l σ H2 ⟨x, _, U⟩ => hG _ U.same) ?_ ?_
    · rintro l x r σ H2 H3 e ⟨y, rfl, U⟩ s3
      have U3 := U.grow s3
      obtain ⟨dx', a', b', c', kvs', m1, m2, m3, m4, m5, m6, m7⟩ := U3.own
      have hx : x ∈ as := by rw [e]; simp
      refine ⟨_, rfl, p, _, _, rfl, m6, rfl, _, rfl, p, H0, many, l, x, rfl, U3, hcls x hx, hcl x hx, ?_, fun H4 U4 => ⟨_, rfl, U4⟩⟩
      rw [e, List.length_append, List.length_cons] at hl; omega
    · rintro σ H2 ⟨x, rfl, U⟩
      exact k H2 U
  rcases hv with hv | hv
  · exact .inl ⟨_, rfl, v, rfl, ⟨_, SqL.of (SF _ _ hv)⟩, step _ _ (wkL as rf) fun H2 s => SqL.of (s _ _ hv)⟩
  · exact .inr ⟨_, rfl, v, rfl, ⟨_, SqT.of (SF _ _ hv)⟩, step _ _ (wkT as rf) fun H2 s => SqT.of (s _ _ hv)⟩
theorem sc_Units_run : FnScope ["self", "given", "sure", "waiting", "place", "one", "clause", "left"] ["self", "given"] (defScope s_Units_run) := ⟨rfl, rfl, rfl, by decide +kernel, rfl, by decide +kernel, by decide +kernel⟩
theorem ok_Units_run (T : Tx K mg) (C_Units_left_of : CalF P w K mg base ("Units", some "left_of") 1 ["self", "clause", "sure"] (sp_Units_left_of K)) : CalF P w K mg base ("Units", some "run") 2 ["self", "given"] (sp_Units_run K) := by
  have mg_len : mg "len" = none := T.free 62
  obtain ⟨fd_Units_left_of, b_Units_left_of, G_Units_left_of, kp_Units_left_of⟩ := C_Units_left_of
  have mt_Units_left_of : Meth K (He.ga K "Units") "left_of" (He.ma K (He.ga K "Units") "left_of") := T.meth 85
  have cl_Units : Cls K (He.ga K "Units") := T.cls 80
  have no_Units_clauses : NoAttr K (He.ga K "Units") "clauses" := T.noat 87
  have no_Units_single : NoAttr K (He.ga K "Units") "single" := T.noat 88
  have no_Units_by : NoAttr K (He.ga K "Units") "by" := T.noat 86
  refine calF T (d := d_Units_run) 10 rfl sc_Units_run rfl rfl (fun _ _ _ _ _ _ us hl => match us, hl with | [_, _], _ => rfl) (len_Units_run K) ?_
  intro cdv A outer s H vs Q E hr h
  have hu := hu_of hr
  obtain ⟨p, g, H0, many, as, gs, rfl, U, hg, hgr, hgl, k⟩ := h
  obtain ⟨dx, a, b, c, kvs, n1, n2, n3, n4, nac, hp, ha, hc, B⟩ := U.own
  have hi := U.hi
  have lo := U.lo
  have hlen := U.len
  refine ⟨_, (pss_cons (ps_par (i := 2) (j := 3) (by rfl) sc_Units_run.nd rfl rfl (by decide) rfl rfl (pa_cons pe_dnewK (pa_cons (pe_op op_cat (pe_lc (own := [("place", 4)]) (g := gName 4) (tt := tYes) rfl sc_Units_run.nd (pi_listK (K := K) rfl (pe_fld2 cl_Units no_Units_single (pv 0))) (blkOk_by (by kernel_rfl)) (fun _ _ _ _ _ => (pg_name (i := 4) sc_Units_run.nd rfl (Or.inl rfl))) (fun _ _ _ _ _ => pts_nil) (fun _ _ _ _ _ => (pe_ix ix_list2 (pe_fld2 cl_Units no_Units_clauses (pv 0)) (pv 4) (fun _ _ => rfl)))) (pe_lc (own := [("one", 5)]) (g := gName 5) (tt := tYes) rfl sc_Units_run.nd (pi_seqK (K := K) rfl (pv 1)) (blkOk_by (by kernel_rfl)) (fun _ _ _ _ _ => (pg_name (i := 5) sc_Units_run.nd rfl (Or.inl rfl))) (fun _ _ _ _ _ => pts_nil) (fun _ _ _ _ _ => (pe_tup (pa_cons (pv 5) pa_nil))))) pa_nil)) (by rfl))
      (pss_cons (ps_while PassesOwn.never (pt_cmpR (op_neE hr.units) (pv 3) (pe_lst pa_nil) (nomark _)) (pss_cons (ps_set (i := 6) sc_Units_run.nd rfl (Or.inl rfl) (pe_bm0 PySem.F.plainAttrs_list PySem.F.slot_list_pop PySem.F.type_list_pop mt_pop (pv 3)))
      (pss_cons (ps_set (i := 7) sc_Units_run.nd rfl (Or.inl rfl) (pe_meth (pv 0) cl_Units mt_Units_left_of G_Units_left_of (hr.mono (by decide)) b_Units_left_of .nil pass0 (pa_cons (pv 6) (pa_cons (pv 2) pa_nil))))
      (pss_cons (ps_if (pt_cmpR (op_eqO hr.units) (pv 7) (pe_lst pa_nil) (nomark _)) (pss_one (ps_ret (pe_tup (pa_cons (pv 2) (pa_cons (pv 6) pa_nil))))) pss_nil)
      (pss_one (ps_if (PW.pt (pw_and (pt_cmpR op_notN (pv 7) pe_non (nomark _)) (pw_and1 (pt_cmpR op_eq (pe_callB call_len2 (by rfl) mg_len bt_len (pa_cons (pv 7) pa_nil)) pe_int (nomark _))))) (pss_cons (ps_dput hu (pv 2) (pe_ix ix_list2 (pv 7) pe_int (fun _ _ => rfl)) pe_bl rfl)
      (pss_one (ps_expr (pe_bm PySem.F.plainAttrs_list PySem.F.slot_list_extend PySem.F.type_list_extend mt_extend (pv 3) (pa_cons (pe_lc (own := [("place", 4)]) (g := gName 4) (tt := tYes) rfl sc_Units_run.nd (pi_listK (K := K) rfl (pe_dget2 hu (pe_fld2 cl_Units no_Units_by (pv 0)) (pe_op op_sub pe_int (pe_ix ix_list2 (pv 7) pe_int (fun _ _ => rfl))) (pe_lst pa_nil) ⟨rfl, rfl, rfl, rfl⟩)) (blkOk_by (by kernel_rfl)) (fun _ _ _ _ _ => (pg_name (i := 4) sc_Units_run.nd rfl (Or.inl rfl))) (fun _ _ _ _ _ => pts_nil) (fun _ _ _ _ _ => (pe_ix ix_list2 (pe_fld2 cl_Units no_Units_clauses (pv 0)) (pv 4) (fun _ _ => rfl)))) pa_nil))))) pss_nil))))))
      (pss_one (ps_ret (pe_tup (pa_cons (pv 2) (pa_cons pe_non pa_nil))))))), ?_⟩
  refine fun d hd => ?_
  have sd := Same.new (o := .dK []) hd
  refine ⟨_, rfl, _, _, _, _, rfl, sd _ _ hp, rfl, c, rfl, ⟨_, SqL.of (sd _ _ hc)⟩, ?_⟩
  refine lcV0 (sgP as) _ (wkL (sgP as) fun x => .int x.1) yName (fun x => rf x.2) (Nat.le_trans (sgP_len as) hlen) (by intro _; rfl) (fun H h => SqL.of (h _ _ (sd _ _ hc))) ?_ ?_
  · intro x hx H1 s1 Qe q
    obtain ⟨j, e1, e2, e3⟩ := mem_sgP.mp hx
    have hix := at_cls e2
    rw [← e1] at hix
    exact ⟨_, rfl, _, _, _, _, rfl, s1 _ _ (sd _ _ hp), rfl, _, rfl, a, _, x.1, _, rfl, rfl, s1 _ _ (sd _ _ ha), hix, q _ (Same.refl _)⟩
  · intro D H1 nD s1 h1
    have sd1 := sd.trans s1
    refine seqGo gs V.int (fun Q q => ⟨_, rfl, q⟩) (hg.imp (sd1 _ _) (sd1 _ _)) fun J G w0 hG => ?_
    refine lcT0 gs _ w0 yName (fun l => [.int l]) (by omega) (by intro _; rfl) hG ?_ ?_
    · intro l hl H2 s2 Qe q
      exact ⟨_, rfl, by show 1 ≤ sizeLine; decide, fun t ht => q t _ (Same.new ht) upd_same⟩
    · intro D2 H2 ys nD2 s2 h2 hpr
      obtain ⟨gc, rfl, egc, hgc⟩ := paired_cls (f := fun l => [l]) hpr
      have egl : gc.length = gs.length := by simpa using congrArg List.length egc
      have sgl := sgP_len as
      refine ⟨D, D2, _, _, rfl, rfl, s2 _ _ h1, h2, (by rw [List.length_map, List.length_map]; have : sizeLine = 16777216 := rfl; omega), fun ww hw => ?_⟩
      have s02 : Same H H2 := sd1.trans s2
      have hww : H ww = none := s02.free hw
      have hdw : d ≠ ww := ne_of_none (s2 _ _ (s1 _ _ (upd_same (H := H) (a := d) (o := .dK [])))) hw
      refine ⟨_, _, rfl, ?_⟩
      have eW : ((sgP as).map fun x => rf x.2) ++ gc.map rf = ((sgP as).map (·.2) ++ gc).map rf := by rw [List.map_append, List.map_map]; rfl
      rw [eW]
      have eW2 : ((sgP as).map (·.2) ++ gc).map (·.2) = ((sgP as).map fun x => x.2.2) ++ gs.map fun g => [g] := by rw [List.map_append, List.map_map, egc]; rfl
      have I0 : RunInv (as.map (·.2)) gs [] (((sgP as).map (·.2) ++ gc).map (·.2)) := by
        rw [eW2]
        refine RunInv.start (fun x hx => ?_) (fun x hx => ?_) fun x hx h2 => ?_
        · obtain ⟨y, hy, rfl⟩ := List.mem_map.mp hx
          exact pw_nodup (isCl_iff.mp (U.cl y hy)).2
        · obtain ⟨y, hy, rfl⟩ := List.mem_map.mp hx
          obtain ⟨j, _, e2, _⟩ := mem_sgP.mp hy
          exact List.mem_map.mpr ⟨y.2, List.mem_of_getElem? e2, rfl⟩
        · obtain ⟨y, hy, rfl⟩ := List.mem_map.mp hx
          obtain ⟨j, hj⟩ := List.getElem?_of_mem hy
          exact List.mem_map.mpr ⟨((j : Int), y), mem_sgP.mpr ⟨j, rfl, hj, h2⟩, rfl⟩
      have sB : ∀ S : List Int, S.Nodup → (∀ l ∈ S, InR many l) → S.length ≤ 61 := fun S h1 h2 => Nat.le_trans (len_lits lo h1 h2) (by omega)
      have inr : ∀ l, Der (as.map (·.2)) gs l → InR many l := fun l h => h.inr (fun x hx l hl => by
        obtain ⟨y, hy, rfl⟩ := List.mem_map.mp hx
        exact (isCl_iff.mp (U.cl y hy)).1 l hl) hgr
      refine ⟨fun m σ H3 => ∃ S W x4 x5 x6 x7, σ = [some (.ref p), some (.ref g), some (.ref d), some (.ref ww), x4, x5, x6, x7] ∧ Same H H3 ∧ H3 d = some (.dK (S.map fun l => (.inl l, .bl true))) ∧ H3 ww = some (.lst (W.map rf)) ∧ CLs H3 W ∧ RunInv (as.map (·.2)) gs S (W.map (·.2)) ∧
        m = (61 - S.length) * (as.length + 1) + W.length ∧ W.length ≤ (S.length + 1) * as.length + gs.length, ⟨_, [], _, none, none, none, none, rfl, s02.trans (Same.new hw), ?_, upd_same, ?_, I0, rfl, ?_⟩, ?_⟩
      · rw [upd_ne hdw]; exact s2 _ _ (s1 _ _ upd_same)
      · intro x hx
        have hnx : ∀ o, H2 x.1 = some o → upd H2 ww (.lst (((sgP as).map (·.2) ++ gc).map rf)) x.1 = some o := fun o h => Same.new hw _ _ h
        rcases List.mem_append.mp hx with hx | hx
        · obtain ⟨y, hy, rfl⟩ := List.mem_map.mp hx
          obtain ⟨j, _, e2, _⟩ := mem_sgP.mp hy
          exact hnx _ (s02 _ _ (U.same _ _ (U.cls _ (List.mem_of_getElem? e2))))
        · exact hnx _ (hgc x hx)
      · rw [List.length_append, List.length_map, egl]; simp; omega
      rintro m σ H3 ⟨S, W, x4, x5, x6, x7, rfl, s3, hd3, hw3, hW3, I, rfl, hWl⟩
      refine ⟨_, rfl, Nat.zero_le _, fun e he => ?_⟩
      have se := Same.new (o := .lst []) he
      refine ⟨ww, e, _, rfl, rfl, .inl ⟨se _ _ hw3, upd_same⟩, dd_cls (hW3.mono se), _, rfl, ?_⟩
      rcases List.eq_nil_or_concat W with rfl | ⟨W', c0, rfl⟩
      · refine iteF ?_
        refine ⟨_, rfl, by show 2 ≤ sizeLine; decide, fun t ht => ?_⟩
        have st := Same.new (o := .tup [.ref d, .non]) ht
        exact k _ t d S none .non ((s3.trans se).trans st) upd_same (st _ _ (se _ _ hd3)) (.inl ⟨rfl, rfl⟩) I.done fun l hl => inr l (I.der l hl)
      · have ene : (!((W'.concat c0).map rf).isEmpty) = true := by simp
        rw [ene]
        refine iteT ⟨_, fun _ _ h => h, ?_⟩
        rw [List.concat_eq_append] at hW3 hw3 I hWl ⊢
        refine ⟨_, rfl, .inl ⟨rfl, _, SqL.of (se _ _ hw3)⟩, ww, _, rf c0, rfl, rfl, se _ _ hw3, by simp, ?_⟩
        have edl : ((W' ++ [c0]).map rf).dropLast = W'.map rf := by simp
        rw [edl]
        have hc0 : H3 c0.1 = some (.tup (c0.2.map V.int)) := hW3 c0 (by simp)
        have hwc : c0.1 ≠ ww := ne_of hc0 hw3 (by intro z; cases z)
        have hdwn : d ≠ ww := hdw
        have S4 : Same H (upd (upd H3 e (.lst [])) ww (.lst (W'.map rf))) := Same.mut (s3.trans se) hww
        have hd4 : upd (upd H3 e (.lst [])) ww (.lst (W'.map rf)) d = some (.dK (S.map fun l => (.inl l, .bl true))) := by rw [upd_ne hdwn]; exact se _ _ hd3
        have hc4 : upd (upd H3 e (.lst [])) ww (.lst (W'.map rf)) c0.1 = some (.tup (c0.2.map V.int)) := by rw [upd_ne hwc]; exact se _ _ hc0
        have hW4 : CLs (upd (upd H3 e (.lst [])) ww (.lst (W'.map rf))) W' := fun x hx => by
          have h1 := hW3 x (List.mem_append_left _ hx)
          rw [upd_ne (ne_of h1 hw3 (by intro z; cases z))]; exact se _ _ h1
        have hcl0 : c0.2.Nodup ∧ c0.2.length ≤ 100 ∧ ∀ l ∈ c0.2, InR many l := by
          rw [List.map_append] at I
          rcases List.mem_append.mp I.mem with h | h
          · obtain ⟨y, hy, e⟩ := List.mem_map.mp h
            rw [← show y.2 = c0.2 from e]
            exact ⟨pw_nodup (isCl_iff.mp (U.cl y hy)).2, Nat.le_trans (isCl_len lo (U.cl y hy)) (by omega), (isCl_iff.mp (U.cl y hy)).1⟩
          · obtain ⟨l, hl, e⟩ := List.mem_map.mp h
            rw [← show [l] = c0.2 from e]
            exact ⟨by simp, by simp, fun m hm => by rw [List.mem_singleton.mp hm]; exact hgr l hl⟩
        obtain ⟨hnd, hl100, hin⟩ := hcl0
        rw [List.map_append] at I
        have sS := sB S I.nd fun l hl => inr l (I.der l hl)
        have hWl' : W'.length + 1 ≤ (S.length + 1) * as.length + gs.length := by simpa using hWl
        have drop : Quiet S c0.2 → ∀ (x4 x5 x6 x7 : Option V) H', Same H H' → H' d = some (.dK (S.map fun l => (.inl l, .bl true))) → H' ww = some (.lst (W'.map rf)) → CLs H' W' →
            ∃ m', m' < (61 - S.length) * (as.length + 1) + (W' ++ [c0]).length ∧ ∃ S' W'' y4 y5 y6 y7, [some (V.ref p), some (.ref g), some (.ref d), some (.ref ww), x4, x5, x6, x7] = [some (.ref p), some (.ref g), some (.ref d), some (.ref ww), y4, y5, y6, y7] ∧ Same H H' ∧ H' d = some (.dK (S'.map fun l => (.inl l, .bl true))) ∧ H' ww = some (.lst (W''.map rf)) ∧ CLs H' W'' ∧ RunInv (as.map (·.2)) gs S' (W''.map (·.2)) ∧
        m' = (61 - S'.length) * (as.length + 1) + W''.length ∧ W''.length ≤ (S'.length + 1) * as.length + gs.length := by
          intro q x4 x5 x6 x7 H' h1 h2 h3 h4
          exact ⟨_, by simp, S, W', x4, x5, x6, x7, rfl, h1, h2, h3, h4, I.drop q, rfl, by omega⟩
        refine ⟨_, rfl, p, _, _, rfl, S4 _ _ hp, rfl, _, rfl, _, rfl, .ref p, c0.1, d, c0.2, S, _, rfl, hc4, hl100, hd4, valV_true S, fun hn H5 s5 => ?_, fun r hr H5 q s5 hq0 hq => ?_⟩
        · refine ⟨_, rfl, Nat.zero_le _, fun e2 he2 => ?_⟩
          have se2 := Same.new (o := .lst []) he2
          refine ⟨e2, rfl, upd_same, .inl ⟨rfl, _, rfl, iteF ?_⟩⟩
          refine ⟨_, rfl, rfl, _, rfl, iteF (iteF ?_)⟩
          have s6 := s5.trans se2
          exact drop (leftOf_none hn) _ _ _ _ _ (S4.trans s6) (s6 _ _ hd4) (s6 _ _ upd_same) (hW4.mono s6)
        · refine ⟨_, rfl, Nat.zero_le _, fun e2 he2 => ?_⟩
          have se2 := Same.new (o := .lst []) he2
          have s6 := s5.trans se2
          have hq6 := se2 _ _ hq
          have S6 := S4.trans s6
          refine ⟨e2, rfl, upd_same, .inr ⟨q, _, rfl, hq6, dd_ints r, _, rfl, ?_⟩⟩
          match r, hr, hq6 with
          | [], hr, hq6 =>
            refine iteT ?_
            refine ⟨_, rfl, _, rfl, by show 2 ≤ sizeLine; decide, fun t ht => ?_⟩
            have s7 := s6.trans (Same.new (o := .tup [.ref d, rf c0]) ht)
            exact k _ t d S (some c0.2) (rf c0) (S4.trans s7) upd_same (s7 _ _ hd4) (.inr ⟨c0.1, c0.2, rfl, rfl, s7 _ _ hc4⟩) (I.ends (leftOf_nil hr)) fun l hl => inr l (I.der l hl)
          | [l], hr, hq6 =>
            refine iteF ?_
            refine ⟨_, rfl, rfl, _, rfl, iteT ⟨_, rfl, q, _, rfl, .inl hq6, rfl, _, rfl, iteT ?_⟩⟩
            obtain ⟨f1, f2, f3, f4⟩ := leftOf_one hr
            have hS2 : (S ++ [l]).length ≤ 61 := by
              refine sB _ ?_ fun m hm => ?_
              · rw [List.nodup_append]
                exact ⟨I.nd, by simp, fun x hx y hy e => f2 (by rw [← List.mem_singleton.mp hy, ← e]; exact hx)⟩
              · rcases List.mem_append.mp hm with h | h
                · exact inr m (I.der m h)
                · rw [List.mem_singleton.mp h]; exact hin l f1
            have hS3 : S.length + 1 ≤ 61 := by simpa using hS2
            refine ⟨_, rfl, _, rfl, q, _, 0, .int l, rfl, rfl, hq6, rfl, d, _, rfl, DPut.k (k := .inl l) (s6 _ _ hd4) (by rw [List.length_map]; exact sz_lt (by omega)), ?_⟩
            rw [putK_true f2]
            have hd6 := s6 _ _ hd4
            have dn : H d = none := hd
            have keep : ∀ x o, H x = some o → upd (upd H5 e2 (.lst [])) d (.dK ((S ++ [l]).map fun l => (.inl l, .bl true))) x = some o := fun x o h => Same.mut S6 dn _ _ h
            have keep4 : ∀ x o, x ≠ d → upd (upd H3 e (.lst [])) ww (.lst (W'.map rf)) x = some o → upd (upd H5 e2 (.lst [])) d (.dK ((S ++ [l]).map fun l => (.inl l, .bl true))) x = some o := fun x o n h => by
              rw [upd_ne n]; exact s6 _ _ h
            have hq7 : upd (upd H5 e2 (.lst [])) d (.dK ((S ++ [l]).map fun l => (.inl l, .bl true))) q = some (.lst ([l].map V.int)) := by
              rw [upd_ne (ne_of hq6 hd6 (by intro z; cases z))]; exact hq6
            have hw7 := keep4 ww _ hdw.symm upd_same
            refine ⟨_, rfl, .inl ⟨rfl, _, SqL.of hw7⟩, _, rfl, _, _, _, _, rfl, keep _ _ hp, rfl, b, rfl, .inl ⟨_, .inl (keep _ _ B.at_)⟩, _, rfl, q, _, 0, .int l, rfl, rfl, hq7, rfl, _, _, rfl, rfl, Nat.zero_le _, fun d2 hd2 => ?_⟩
            generalize hG : upd (upd H5 e2 (.lst [])) d (.dK ((S ++ [l]).map fun l => (.inl l, .bl true))) = G at *
            have sd2 := Same.new (o := .lst []) hd2
            have S7 : Same H G := fun x o h => keep x o h
            obtain ⟨bq, hbq, hbl⟩ : ∃ bq, (valV kvs (.inl (0 - l))).getD (.ref d2) = .ref bq ∧ upd G d2 (.lst []) bq = some (.lst ((occP (0 - l) as).map fun x => .int x.1)) := by
              have eq : ∀ ys : List (Int × Cl), (ys.map fun x => V.int x.1) = (ys.map (·.1)).map V.int := fun ys => by rw [List.map_map]; rfl
              rcases B.get (0 - l) with ⟨h1, h2⟩ | ⟨bq, h1, h2, h3, _⟩
              · refine ⟨d2, by rw [h1]; rfl, ?_⟩
                rw [eq, occP_fst, h2]; exact upd_same
              · refine ⟨bq, by rw [h1]; rfl, ?_⟩
                rw [eq, occP_fst]; exact sd2 _ _ (keep _ _ h2)
            refine ⟨_, DGet.k (k := .inl (0 - l)) (sd2 _ _ (keep _ _ B.at_)), ?_⟩
            rw [hbq]
            refine ⟨bq, rfl, ⟨_, SqL.of hbl⟩, ?_⟩
            refine lcV0 (occP (0 - l) as) _ (wkL (occP (0 - l) as) fun x => .int x.1) yName (fun x => rf x.2) (Nat.le_trans (occP_len _ as) hlen) (by intro _; rfl) (fun H h => SqL.of (h _ _ hbl)) ?_ ?_
            · intro x hx H8 s8 Qe qe
              obtain ⟨jj, e1, e2', e3⟩ := mem_occP.mp hx
              have hix := at_cls e2'
              rw [← e1] at hix
              have k8 := sd2.trans s8
              exact ⟨_, rfl, _, _, _, _, rfl, k8 _ _ (keep _ _ hp), rfl, _, rfl, a, _, x.1, _, rfl, rfl, k8 _ _ (keep _ _ ha), hix, qe _ (Same.refl _)⟩
            · intro D3 H8 nD3 s8 h8
              have k8 := sd2.trans s8
              refine ⟨ww, D3, _, _, rfl, rfl, k8 _ _ hw7, h8, (by rw [List.length_map, List.length_map]; have := occP_len (0 - l) as; have : sizeLine = 16777216 := rfl; have h9 : (S.length + 1) * as.length ≤ 61 * as.length := Nat.mul_le_mul_right _ hS3; omega), ?_⟩
              have eW : W'.map rf ++ ((occP (0 - l) as).map fun x => rf x.2) = (W' ++ (occP (0 - l) as).map (·.2)).map rf := by rw [List.map_append, List.map_map]; rfl
              rw [eW]
              have hww7 : ∀ o x, x ≠ ww → G x = some o → upd H8 ww (.lst ((W' ++ (occP (0 - l) as).map (·.2)).map rf)) x = some o := fun o x n h => by rw [upd_ne n]; exact k8 _ _ h
              have hdG : G d = some (.dK ((S ++ [l]).map fun l => (.inl l, .bl true))) := by rw [← hG]; exact upd_same
              have ocl := occP_len (0 - l) as
              refine ⟨(61 - (S ++ [l]).length) * (as.length + 1) + (W' ++ (occP (0 - l) as).map (·.2)).length, ?_, S ++ [l], W' ++ (occP (0 - l) as).map (·.2), _, _, _, _, rfl, Same.mut (S7.trans k8) hww, hww7 _ _ hdw hdG, upd_same, ?_, ?_, rfl, ?_⟩
              · simp only [List.length_append, List.length_map, List.length_cons, List.length_nil]
                obtain ⟨t, ht⟩ : ∃ t, 61 - S.length = t + 1 := ⟨60 - S.length, by omega⟩
                have ht2 : 61 - (S.length + (0 + 1)) = t := by omega
                rw [ht2, ht, Nat.add_mul, Nat.one_mul]
                omega
              · intro x hx
                rcases List.mem_append.mp hx with hx | hx
                · have h1 := hW4 x hx
                  have n1 : x.1 ≠ d := ne_of h1 hd4 (by intro z; cases z)
                  have n2 : x.1 ≠ ww := ne_of h1 upd_same (by intro z; cases z)
                  exact hww7 _ _ n2 (keep4 _ _ n1 h1)
                · obtain ⟨y, hy, rfl⟩ := List.mem_map.mp hx
                  obtain ⟨jj, _, e2', _⟩ := mem_occP.mp hy
                  have h1 := U.same _ _ (U.cls _ (List.mem_of_getElem? e2'))
                  exact hww7 _ _ (ne_of_none h1 hww) (keep _ _ h1)
              · rw [List.map_append]
                refine I.add (hin l f1).1 f1 f2 f3 f4 (fun x hx => ?_) fun x hx hm => ?_
                · obtain ⟨z, hz, rfl⟩ := List.mem_map.mp hx
                  obtain ⟨y, hy, rfl⟩ := List.mem_map.mp hz
                  obtain ⟨jj, _, e2', _⟩ := mem_occP.mp hy
                  exact List.mem_map.mpr ⟨y.2, List.mem_of_getElem? e2', rfl⟩
                · obtain ⟨y, hy, rfl⟩ := List.mem_map.mp hx
                  obtain ⟨jj, hj⟩ := List.getElem?_of_mem hy
                  exact List.mem_map.mpr ⟨y, List.mem_map.mpr ⟨((jj : Int), y), mem_occP.mpr ⟨jj, rfl, hj, by rw [Int.zero_sub]; exact hm⟩, rfl⟩, rfl⟩
              · simp only [List.length_append, List.length_map, List.length_cons, List.length_nil]
                have h9 : (S.length + (0 + 1) + 1) * as.length = (S.length + 1) * as.length + as.length := by
                  rw [show S.length + (0 + 1) + 1 = (S.length + 1) + 1 by omega, Nat.add_mul (S.length + 1) 1, Nat.one_mul]
                omega
          | x :: y :: r, hr, hq6 =>
            refine iteF ?_
            refine ⟨_, rfl, rfl, _, rfl, iteT ⟨_, rfl, q, _, rfl, .inl hq6, rfl, _, rfl, ?_⟩⟩
            rw [dec_int, decide_eq_false (by simp; omega)]
            refine iteF ?_
            exact drop (leftOf_two hnd hr (by simp)) _ _ _ _ _ S6 (s6 _ _ hd4) (s6 _ _ upd_same) (hW4.mono s6)
end
end Nt
set_option maxRecDepth 100000
set_option maxHeartbeats 1000000
/-! NtQ: the search, by plain lists. -/
namespace Nt
open PySem PySem.Spec PyProof.Rows L2
def ab (l : Int) : Int := if l < 0 then -l else l
theorem ab_neg (l : Int) : ab (-l) = ab l := by unfold ab; split <;> split <;> omega
theorem ab_eq {x y : Int} (h : ab x = ab y) : x = y ∨ x = -y := by unfold ab at h; split at h <;> split at h <;> omega
theorem ab_in {many l : Int} (h : InR many l) : 1 ≤ ab l ∧ ab l ≤ many := by unfold InR at h; unfold ab; split <;> omega
theorem ab_pos {n : Int} (h : 0 ≤ n) : ab n = n := by unfold ab; split <;> omega
structure SS where
  many : Int
  cl : List Cl
  tr : List Int
  at_ : Nat
  mks : List Nat
  ln : List Cl
  ks : Option Cl
  lo : Int
  up : Bool
  lv : Int → Int
  rs : Int → Option Cl
def makeF (s : SS) (l : Int) (r : Option Cl) : SS := { s with tr := s.tr ++ [l], lv := fun x => if x = ab l then s.mks.length else s.lv x, rs := fun x => if x = ab l then r else s.rs x }
def lookF (s : SS) (c : Cl) : SS := match leftOf s.tr c.2 with
  | none => s
  | some [] => { s with ks := some c }
  | some [l] => makeF s l (some c)
  | some _ => s
def putS (s : SS) (c : Cl) : SS := lookF { s with cl := s.cl ++ [c] } c
def decideF (s : SS) (l : Int) : SS := makeF { s with mks := s.mks ++ [s.tr.length] } l none
/-- what is kept at every step -/
structure Iv (s : SS) : Prop where
  lo0 : 0 ≤ s.many
  hi : s.many ≤ 30
  cl : ∀ c ∈ s.cl, isCl s.many c.2 = true
  inr : ∀ l ∈ s.tr, InR s.many l
  nd : (s.tr.map ab).Nodup
  mkp : s.mks.Pairwise (· < ·)
  mklt : ∀ m ∈ s.mks, m < s.tr.length
  lev : ∀ (i : Nat) (l : Int), s.tr[i]? = some l → s.lv (ab l) = ((s.mks.filter fun m => decide (m ≤ i)).length : Nat)
  rsn : ∀ (i : Nat) (l : Int), s.tr[i]? = some l → i ∉ s.mks → ∃ r, s.rs (ab l) = some r ∧ r ∈ s.cl ∧ l ∈ r.2 ∧ ∀ y ∈ r.2, y ≠ l → -y ∈ s.tr.take i
  rin : ∀ (i : Nat) (l : Int) (r : Cl), s.tr[i]? = some l → s.rs (ab l) = some r → r ∈ s.cl
  quiet : ∀ m ∈ s.mks, ∀ c ∈ s.cl, Quiet (s.tr.take m) c.2
  ks : ∀ c, s.ks = some c → c ∈ s.cl ∧ ∀ l ∈ c.2, -l ∈ s.tr
  at_ : s.at_ ≤ s.tr.length
  atm : ∀ m ∈ s.mks, m ≤ s.at_
  low1 : 1 ≤ s.lo
  low : ∀ n, 1 ≤ n → n < s.lo → n ∈ s.tr ∨ -n ∈ s.tr
/-- each clause but those of E is quiet, or has a literal that is false since at_ -/
def Pn (s : SS) (E : List Cl) : Prop := s.ks = none → ∀ c ∈ s.cl, c ∈ E ∨ Quiet s.tr c.2 ∨ ∃ (i : Nat) (l : Int), s.at_ ≤ i ∧ s.tr[i]? = some l ∧ -l ∈ c.2
section
variable {s : SS}
theorem nd_tr (h : (s.tr.map ab).Nodup) : s.tr.Nodup := List.Pairwise.of_map (S := (· ≠ ·)) ab (fun a b h e => h (by rw [e])) h
theorem nd_ix {α : Type} {xs : List α} (h : xs.Nodup) {i j : Nat} {x : α} (hi : xs[i]? = some x) (hj : xs[j]? = some x) : i = j := by
  obtain ⟨i1, i2⟩ := List.getElem?_eq_some_iff.mp hi
  obtain ⟨j1, j2⟩ := List.getElem?_eq_some_iff.mp hj
  rcases Nat.lt_trichotomy i j with k | k | k
  · exact absurd (i2.trans j2.symm) (List.pairwise_iff_getElem.mp h i j i1 j1 k)
  · exact k
  · exact absurd (j2.trans i2.symm) (List.pairwise_iff_getElem.mp h j i j1 i1 k)
theorem Iv.one (I : Iv s) {x y : Int} (hx : x ∈ s.tr) (hy : y ∈ s.tr) (e : ab x = ab y) : x = y := by
  obtain ⟨i, hi⟩ := List.getElem?_of_mem hx
  obtain ⟨j, hj⟩ := List.getElem?_of_mem hy
  have h1 : (s.tr.map ab)[i]? = some (ab x) := by rw [List.getElem?_map, hi]; rfl
  have h2 : (s.tr.map ab)[j]? = some (ab x) := by rw [List.getElem?_map, hj, e]; rfl
  have h3 := nd_ix I.nd h1 h2
  subst h3
  rw [hi] at hj
  exact Option.some.inj hj
theorem Iv.cons (I : Iv s) {x : Int} (hx : x ∈ s.tr) : -x ∉ s.tr := fun h => by
  have := I.one hx h (ab_neg x).symm
  have := (I.inr x hx).1
  omega
theorem Iv.len (I : Iv s) : s.tr.length ≤ s.many.toNat := by
  have h := List.Nodup.length_le_of_subset I.nd (l₂ := (List.range s.many.toNat).map fun (i : Nat) => (i : Int) + 1) fun x hx => by
    obtain ⟨l, hl, rfl⟩ := List.mem_map.mp hx
    have := ab_in (I.inr l hl)
    exact List.mem_map.mpr ⟨(ab l - 1).toNat, List.mem_range.mpr (by omega), by omega⟩
  simpa using h
/-- a place of the trail is that of one literal -/
theorem Iv.at_one (I : Iv s) {i j : Nat} {l : Int} (hi : s.tr[i]? = some l) (hj : s.tr[j]? = some l) : i = j := nd_ix (nd_tr I.nd) hi hj
end
theorem take_snoc {α : Type} {xs : List α} {x : α} {m : Nat} (h : m ≤ xs.length) : (xs ++ [x]).take m = xs.take m := by
  rw [List.take_append_of_le_length h]
theorem mem_snoc {x l : Int} {tr : List Int} : x ∈ tr ++ [l] ↔ x ∈ tr ∨ x = l := by simp
/-- of numbers none of them told, one more told -/
theorem make_iv {s : SS} (I : Iv s) {l : Int} (hl : InR s.many l) (n1 : l ∉ s.tr) (n2 : -l ∉ s.tr) {c : Cl} (hc : c ∈ s.cl) (hm : l ∈ c.2) (ho : ∀ y ∈ c.2, y ≠ l → -y ∈ s.tr) : Iv (makeF s l (some c)) := by
  have hab : ∀ x ∈ s.tr, ab x ≠ ab l := fun x hx e => by
    rcases ab_eq e with rfl | rfl
    · exact n1 hx
    · exact n2 hx
  have hat : ∀ (i : Nat) x, (s.tr ++ [l])[i]? = some x → (s.tr[i]? = some x ∧ ab x ≠ ab l ∧ i < s.tr.length) ∨ (i = s.tr.length ∧ x = l) := by
    intro i x h
    by_cases hi : i < s.tr.length
    · rw [List.getElem?_append_left hi] at h
      exact .inl ⟨h, hab x (List.mem_of_getElem? h), hi⟩
    · rw [List.getElem?_append_right (by omega)] at h
      have : i - s.tr.length = 0 := by
        cases e : i - s.tr.length with
        | zero => rfl
        | succ k => rw [e] at h; simp at h
      rw [this] at h
      exact .inr ⟨by omega, by simpa using h.symm⟩
  have hall : (s.mks.filter fun m => decide (m ≤ s.tr.length)) = s.mks := List.filter_eq_self.mpr fun m hm => decide_eq_true (Nat.le_of_lt (I.mklt m hm))
  refine ⟨I.lo0, I.hi, I.cl, fun x hx => ?_, ?_, I.mkp, fun m hm => ?_, fun i x h => ?_, fun i x h hi => ?_, fun i x r h hr => ?_, fun m hm c' hc' => ?_, fun c' h => ?_, ?_, I.atm, I.low1, fun n h1 h2 => ?_⟩
  · rcases mem_snoc.mp hx with h | rfl
    · exact I.inr x h
    · exact hl
  · show ((s.tr ++ [l]).map ab).Nodup
    rw [List.map_append, List.nodup_append]
    refine ⟨I.nd, by simp, fun a ha b hb e => ?_⟩
    obtain ⟨x, hx, rfl⟩ := List.mem_map.mp ha
    have : b = ab l := by simpa using hb
    exact hab x hx (e.trans this)
  · show m < (s.tr ++ [l]).length
    have := I.mklt m hm
    simp; omega
  · rcases hat i x h with ⟨h, hn, _⟩ | ⟨rfl, rfl⟩
    · show (if ab x = ab l then _ else _) = _
      rw [if_neg hn]; exact I.lev i x h
    · show (if ab x = ab x then _ else _) = ((s.mks.filter _).length : Int)
      rw [if_pos rfl, hall]
  · rcases hat i x h with ⟨h, hn, hlt⟩ | ⟨rfl, rfl⟩
    · obtain ⟨r, h1, h2, h3, h4⟩ := I.rsn i x h hi
      refine ⟨r, ?_, h2, h3, fun y hy e => ?_⟩
      · show (if ab x = ab l then _ else _) = _
        rw [if_neg hn]; exact h1
      · show -y ∈ (s.tr ++ [l]).take i
        rw [take_snoc (Nat.le_of_lt hlt)]; exact h4 y hy e
    · refine ⟨c, ?_, hc, hm, fun y hy e => ?_⟩
      · show (if ab x = ab x then _ else _) = _
        rw [if_pos rfl]
      · show -y ∈ (s.tr ++ [x]).take s.tr.length
        rw [take_snoc (Nat.le_refl _), List.take_length]; exact ho y hy e
  · rcases hat i x h with ⟨h, hn, hlt⟩ | ⟨rfl, rfl⟩
    · have hr : (if ab x = ab l then some c else s.rs (ab x)) = some r := hr
      rw [if_neg hn] at hr
      exact I.rin i x r h hr
    · have hr : (if ab x = ab x then some c else s.rs (ab x)) = some r := hr
      rw [if_pos rfl] at hr
      cases hr; exact hc
  · show Quiet ((s.tr ++ [l]).take m) c'.2
    rw [take_snoc (Nat.le_of_lt (I.mklt m hm))]
    exact I.quiet m hm c' hc'
  · obtain ⟨h1, h2⟩ := I.ks c' h
    exact ⟨h1, fun y hy => List.mem_append_left _ (h2 y hy)⟩
  · show s.at_ ≤ (s.tr ++ [l]).length
    have := I.at_
    simp; omega
  · rcases I.low n h1 h2 with h | h
    · exact .inl (List.mem_append_left _ h)
    · exact .inr (List.mem_append_left _ h)
/-- a decision, all quiet -/
theorem decide_iv {s : SS} (I : Iv s) {l : Int} (hl : InR s.many l) (n1 : l ∉ s.tr) (n2 : -l ∉ s.tr) (hq : ∀ c ∈ s.cl, Quiet s.tr c.2) (ha : s.at_ = s.tr.length) : Iv (decideF s l) := by
  have hab : ∀ x ∈ s.tr, ab x ≠ ab l := fun x hx e => by
    rcases ab_eq e with rfl | rfl
    · exact n1 hx
    · exact n2 hx
  have hat : ∀ (i : Nat) x, (s.tr ++ [l])[i]? = some x → (s.tr[i]? = some x ∧ ab x ≠ ab l ∧ i < s.tr.length) ∨ (i = s.tr.length ∧ x = l) := by
    intro i x h
    by_cases hi : i < s.tr.length
    · rw [List.getElem?_append_left hi] at h
      exact .inl ⟨h, hab x (List.mem_of_getElem? h), hi⟩
    · rw [List.getElem?_append_right (by omega)] at h
      have : i - s.tr.length = 0 := by
        cases e : i - s.tr.length with
        | zero => rfl
        | succ k => rw [e] at h; simp at h
      rw [this] at h
      exact .inr ⟨by omega, by simpa using h.symm⟩
  have hall : (s.mks.filter fun m => decide (m ≤ s.tr.length)) = s.mks := List.filter_eq_self.mpr fun m hm => decide_eq_true (Nat.le_of_lt (I.mklt m hm))
  have mm : ∀ {m : Nat}, m ∈ s.mks ++ [s.tr.length] ↔ m ∈ s.mks ∨ m = s.tr.length := by intro m; simp
  refine ⟨I.lo0, I.hi, I.cl, fun x hx => ?_, ?_, ?_, fun m hm => ?_, fun i x h => ?_, fun i x h hi => ?_, fun i x r h hr => ?_, fun m hm c' hc' => ?_, fun c' h => ?_, ?_, fun m hm => ?_, I.low1, fun n h1 h2 => ?_⟩
  · rcases mem_snoc.mp hx with h | rfl
    · exact I.inr x h
    · exact hl
  · show ((s.tr ++ [l]).map ab).Nodup
    rw [List.map_append, List.nodup_append]
    refine ⟨I.nd, by simp, fun a ha b hb e => ?_⟩
    obtain ⟨x, hx, rfl⟩ := List.mem_map.mp ha
    have : b = ab l := by simpa using hb
    exact hab x hx (e.trans this)
  · show (s.mks ++ [s.tr.length]).Pairwise (· < ·)
    rw [List.pairwise_append]
    exact ⟨I.mkp, List.pairwise_singleton _ _, fun a ha b hb => by rw [List.mem_singleton.mp hb]; exact I.mklt a ha⟩
  · show m < (s.tr ++ [l]).length
    rw [List.length_append]
    rcases mm.mp hm with h | rfl
    · have := I.mklt m h
      simp; omega
    · simp
  · show _ = (((s.mks ++ [s.tr.length]).filter _).length : Int)
    rw [List.filter_append]
    rcases hat i x h with ⟨h, hn, hlt⟩ | ⟨rfl, rfl⟩
    · show (if ab x = ab l then _ else _) = _
      rw [if_neg hn, I.lev i x h]
      have : ([s.tr.length].filter fun m => decide (m ≤ i)) = [] := by simp; omega
      rw [this, List.append_nil]
    · show (if ab x = ab x then (((s.mks ++ [s.tr.length]).length : Nat) : Int) else _) = _
      rw [if_pos rfl, hall]
      simp
  · rcases hat i x h with ⟨h, hn, hlt⟩ | ⟨rfl, rfl⟩
    · obtain ⟨r, h1, h2, h3, h4⟩ := I.rsn i x h fun z => hi (mm.mpr (.inl z))
      refine ⟨r, ?_, h2, h3, fun y hy e => ?_⟩
      · show (if ab x = ab l then _ else _) = _
        rw [if_neg hn]; exact h1
      · show -y ∈ (s.tr ++ [l]).take i
        rw [take_snoc (Nat.le_of_lt hlt)]; exact h4 y hy e
    · exact absurd (mm.mpr (.inr rfl)) hi
  · rcases hat i x h with ⟨h, hn, hlt⟩ | ⟨rfl, rfl⟩
    · have hr : (if ab x = ab l then none else s.rs (ab x)) = some r := hr
      rw [if_neg hn] at hr
      exact I.rin i x r h hr
    · have hr : (if ab x = ab x then none else s.rs (ab x)) = some r := hr
      rw [if_pos rfl] at hr
      cases hr
  · show Quiet ((s.tr ++ [l]).take m) c'.2
    rcases mm.mp hm with h | rfl
    · rw [take_snoc (Nat.le_of_lt (I.mklt m h))]
      exact I.quiet m h c' hc'
    · rw [take_snoc (Nat.le_refl _), List.take_length]
      exact hq c' hc'
  · obtain ⟨h1, h2⟩ := I.ks c' h
    exact ⟨h1, fun y hy => List.mem_append_left _ (h2 y hy)⟩
  · show s.at_ ≤ (s.tr ++ [l]).length
    have := I.at_
    simp; omega
  · show m ≤ s.at_
    rcases mm.mp hm with h | rfl
    · exact I.atm m h
    · omega
  · rcases I.low n h1 h2 with h | h
    · exact .inl (List.mem_append_left _ h)
    · exact .inr (List.mem_append_left _ h)
theorem snoc_pn {s : SS} {E : List Cl} {l : Int} (h : Pn s E) (ha : s.at_ ≤ s.tr.length) (s' : SS) (h1 : s'.tr = s.tr ++ [l]) (h2 : s'.cl = s.cl) (h3 : s'.ks = s.ks) (h4 : s'.at_ = s.at_) : Pn s' E := by
  intro hk c hc
  rw [h2] at hc
  rw [h3] at hk
  rw [h1, h4]
  rcases h hk c hc with h | h | ⟨i, x, hi, hx, hm⟩
  · exact .inl h
  · by_cases hn : -l ∈ c.2
    · exact .inr (.inr ⟨s.tr.length, l, ha, by simp, hn⟩)
    · exact .inr (.inl (h.step hn))
  · refine .inr (.inr ⟨i, x, hi, ?_, hm⟩)
    rw [List.getElem?_append_left (List.getElem?_eq_some_iff.mp hx).1]
    exact hx
/-- what stays as it was -/
structure Ext (s s' : SS) : Prop where
  many : s'.many = s.many
  cl : s'.cl = s.cl
  mks : s'.mks = s.mks
  ln : s'.ln = s.ln
  lo : s'.lo = s.lo
  up : s'.up = s.up
  tr : ∃ y, s'.tr = s.tr ++ y
theorem Ext.refl (s : SS) : Ext s s := ⟨rfl, rfl, rfl, rfl, rfl, rfl, [], (List.append_nil _).symm⟩
theorem Ext.trans {a b c : SS} (h : Ext a b) (k : Ext b c) : Ext a c := by
  obtain ⟨y, hy⟩ := h.tr
  obtain ⟨z, hz⟩ := k.tr
  exact ⟨k.many.trans h.many, k.cl.trans h.cl, k.mks.trans h.mks, k.ln.trans h.ln, k.lo.trans h.lo, k.up.trans h.up, y ++ z, by rw [hz, hy, List.append_assoc]⟩
theorem look_ok {s : SS} (I : Iv s) {c : Cl} (hc : c ∈ s.cl) : Iv (lookF s c) ∧ Ext s (lookF s c) ∧ (lookF s c).at_ = s.at_ ∧ (∀ E, Pn s (c :: E) → Pn (lookF s c) E) ∧ (s.ks ≠ none → (lookF s c).ks ≠ none) := by
  have hcl := isCl_iff.mp (I.cl c hc)
  have old : ∀ E, Quiet s.tr c.2 → Pn s (c :: E) → Pn s E := by
    intro E q h hk c' hc'
    rcases h hk c' hc' with h | h
    · rcases List.mem_cons.mp h with rfl | h
      · exact .inr (.inl q)
      · exact .inl h
    · exact .inr h
  unfold lookF
  split
  · rename_i h
    exact ⟨I, .refl s, rfl, fun E => old E (leftOf_none h), id⟩
  · rename_i h
    refine ⟨⟨I.lo0, I.hi, I.cl, I.inr, I.nd, I.mkp, I.mklt, I.lev, I.rsn, I.rin, I.quiet, fun c' e => ?_, I.at_, I.atm, I.low1, I.low⟩, ⟨rfl, rfl, rfl, rfl, rfl, rfl, [], (List.append_nil _).symm⟩, rfl, fun E _ hk => ?_, fun _ z => ?_⟩
    · cases e
      exact ⟨hc, leftOf_nil h⟩
    · cases hk
    · cases z
  · rename_i l h
    obtain ⟨f1, f2, f3, f4⟩ := leftOf_one h
    refine ⟨make_iv I (hcl.1 l f1) f2 f3 hc f1 f4, ⟨rfl, rfl, rfl, rfl, rfl, rfl, [l], rfl⟩, rfl, fun E hp => ?_, id⟩
    have h1 := snoc_pn (E := c :: E) hp I.at_ (makeF s l (some c)) rfl rfl rfl rfl
    intro hk c' hc'
    rcases h1 hk c' hc' with h | h
    · rcases List.mem_cons.mp h with rfl | h
      · exact .inr (.inl (.inl ⟨l, f1, by show l ∈ s.tr ++ [l]; simp⟩))
      · exact .inl h
    · exact .inr h
  · rename_i x n1 n2 h
    refine ⟨I, .refl s, rfl, fun E => old E (leftOf_two (pw_nodup hcl.2) h ?_), id⟩
    match x, n1, n2 with
    | [], n1, _ => exact absurd rfl n1
    | [l], _, n2 => exact absurd rfl (n2 l)
    | a :: b :: r, _, _ => simp
end Nt
set_option maxRecDepth 100000
set_option maxHeartbeats 1000000
/-! NtQ2: the search, by plain lists: back, clauses more, learning. -/
namespace Nt
open PySem PySem.Spec PyProof.Rows L2
/-! ### marks -/
theorem pw_lt {xs : List Nat} (h : xs.Pairwise (· < ·)) {i j : Nat} {a b : Nat} (hi : xs[i]? = some a) (hj : xs[j]? = some b) (hij : i < j) : a < b := by
  obtain ⟨i1, i2⟩ := List.getElem?_eq_some_iff.mp hi
  obtain ⟨j1, j2⟩ := List.getElem?_eq_some_iff.mp hj
  have := List.pairwise_iff_getElem.mp h i j i1 j1 hij
  omega
theorem mk_drop {xs : List Nat} (h : xs.Pairwise (· < ·)) {j m : Nat} (hj : xs[j]? = some m) : ∀ x ∈ xs.drop j, m ≤ x := by
  intro x hx
  obtain ⟨i, hi⟩ := List.getElem?_of_mem hx
  rw [List.getElem?_drop] at hi
  cases i with
  | zero => rw [Nat.add_zero, hj] at hi; cases hi; exact Nat.le_refl _
  | succ i => exact Nat.le_of_lt (pw_lt h hj hi (by omega))
theorem mk_take {xs : List Nat} (h : xs.Pairwise (· < ·)) {j m : Nat} (hj : xs[j]? = some m) : ∀ x ∈ xs.take j, x < m := by
  intro x hx
  obtain ⟨i, hi⟩ := List.getElem?_of_mem hx
  rw [List.getElem?_take] at hi
  split at hi
  · rename_i hlt
    exact pw_lt h hi hj hlt
  · cases hi
theorem lvl_low {xs : List Nat} (h : xs.Pairwise (· < ·)) {j m i : Nat} (hj : xs[j]? = some m) (hi : i < m) : (xs.filter fun m => decide (m ≤ i)) = (xs.take j).filter fun m => decide (m ≤ i) := by
  have e : xs = xs.take j ++ xs.drop j := (List.take_append_drop _ _).symm
  have e2 : (xs.drop j).filter (fun m => decide (m ≤ i)) = [] := List.filter_eq_nil_iff.mpr fun x hx => by
    have := mk_drop h hj x hx
    simp; omega
  conv => lhs; rw [e]
  rw [List.filter_append, e2, List.append_nil]
theorem lvl_le {xs : List Nat} (h : xs.Pairwise (· < ·)) {j m i : Nat} (hj : xs[j]? = some m) (hi : i < m) : (xs.filter fun m => decide (m ≤ i)).length ≤ j := by
  rw [lvl_low h hj hi]
  refine Nat.le_trans (List.length_filter_le _ _) ?_
  rw [List.length_take]
  exact Nat.min_le_left _ _
theorem lvl_ge {xs : List Nat} (h : xs.Pairwise (· < ·)) {j m i : Nat} (hj : xs[j]? = some m) (hi : m ≤ i) : j + 1 ≤ (xs.filter fun m => decide (m ≤ i)).length := by
  have hlt := (List.getElem?_eq_some_iff.mp hj).1
  have e : xs = xs.take (j + 1) ++ xs.drop (j + 1) := (List.take_append_drop _ _).symm
  have e2 : (xs.take (j + 1)).filter (fun m => decide (m ≤ i)) = xs.take (j + 1) := List.filter_eq_self.mpr fun x hx => by
    obtain ⟨k, hk⟩ := List.getElem?_of_mem hx
    rw [List.getElem?_take] at hk
    split at hk
    · rename_i hkj
      rcases Nat.lt_or_eq_of_le (Nat.le_of_lt_succ hkj) with q | q
      · have := pw_lt h hk hj q
        simp; omega
      · rw [q, hj] at hk; cases hk; simpa using hi
    · cases hk
  conv => rhs; rw [e]
  rw [List.filter_append, e2, List.length_append, List.length_take]
  omega
/-! ### back -/
def lower (lo : Int) (ls : List Int) : Int := ls.foldl (fun lo l => min lo (ab l)) lo
theorem lower_le : ∀ (ls : List Int) (lo : Int), lower lo ls ≤ lo ∧ ∀ l ∈ ls, lower lo ls ≤ ab l
  | [], lo => ⟨Int.le_refl _, fun _ h => by cases h⟩
  | x :: r, lo => by
    have ih := lower_le r (min lo (ab x))
    have e : lower lo (x :: r) = lower (min lo (ab x)) r := rfl
    rw [e]
    refine ⟨by omega, fun l hl => ?_⟩
    rcases List.mem_cons.mp hl with rfl | hl
    · omega
    · exact ih.2 l hl
theorem lower_ge : ∀ (ls : List Int) (lo : Int), 1 ≤ lo → (∀ l ∈ ls, 1 ≤ ab l) → 1 ≤ lower lo ls
  | [], lo, h, _ => h
  | x :: r, lo, h, k => by
    have hx := k x List.mem_cons_self
    exact lower_ge r (min lo (ab x)) (by omega) fun l hl => k l (List.mem_cons_of_mem _ hl)
def backF (s : SS) (j m : Nat) : SS := { s with tr := s.tr.take m, mks := s.mks.take j, lo := lower s.lo (s.tr.drop m), at_ := m, ks := none }
theorem mem_take_ix {α : Type} {xs : List α} {x : α} {m : Nat} : x ∈ xs.take m ↔ ∃ i, i < m ∧ xs[i]? = some x := by
  constructor
  · intro h
    obtain ⟨i, hi⟩ := List.getElem?_of_mem h
    rw [List.getElem?_take] at hi
    split at hi
    · rename_i hlt; exact ⟨i, hlt, hi⟩
    · cases hi
  · rintro ⟨i, hlt, hi⟩
    refine List.mem_of_getElem? (i := i) ?_
    rw [List.getElem?_take, if_pos hlt]; exact hi
theorem back_ok {s : SS} (I : Iv s) {j m : Nat} (hj : s.mks[j]? = some m) : Iv (backF s j m) ∧ (∀ c ∈ s.cl, Quiet (s.tr.take m) c.2) ∧ (backF s j m).at_ = (backF s j m).tr.length := by
  have hm : m ∈ s.mks := List.mem_of_getElem? hj
  have hlt := I.mklt m hm
  have hat : ∀ (i : Nat) (l : Int), (s.tr.take m)[i]? = some l → s.tr[i]? = some l ∧ i < m := by
    intro i l h
    rw [List.getElem?_take] at h
    split at h
    · rename_i hlt; exact ⟨h, hlt⟩
    · cases h
  have hlen : (s.tr.take m).length = m := by rw [List.length_take]; omega
  have hni : ∀ i, i < m → i ∉ s.mks.take j → i ∉ s.mks := by
    intro i hi hn h
    rw [← List.take_append_drop j s.mks] at h
    rcases List.mem_append.mp h with h | h
    · exact hn h
    · have := mk_drop I.mkp hj i h
      omega
  refine ⟨⟨I.lo0, I.hi, I.cl, fun l hl => I.inr l (List.mem_of_mem_take hl), ?_, ?_, fun x hx => ?_, fun i l h => ?_, fun i l h hi => ?_, fun i l r h hr => ?_, fun x hx c hc => ?_, fun c h => ?_, ?_, fun x hx => ?_, ?_, fun n h1 h2 => ?_⟩, fun c hc => I.quiet m hm c hc, hlen.symm⟩
  · show ((s.tr.take m).map ab).Nodup
    rw [List.map_take]
    exact I.nd.sublist (List.take_sublist _ _)
  · exact I.mkp.sublist (List.take_sublist _ _)
  · show x < (s.tr.take m).length
    rw [hlen]
    exact mk_take I.mkp hj x hx
  · obtain ⟨h1, h2⟩ := hat i l h
    show s.lv (ab l) = (((s.mks.take j).filter _).length : Nat)
    rw [I.lev i l h1, lvl_low I.mkp hj h2]
  · obtain ⟨h1, h2⟩ := hat i l h
    obtain ⟨r, k1, k2, k3, k4⟩ := I.rsn i l h1 (hni i h2 hi)
    refine ⟨r, k1, k2, k3, fun y hy e => ?_⟩
    show -y ∈ (s.tr.take m).take i
    rw [List.take_take, Nat.min_eq_left (Nat.le_of_lt h2)]
    exact k4 y hy e
  · exact I.rin i l r (hat i l h).1 hr
  · have hxm := mk_take I.mkp hj x hx
    show Quiet ((s.tr.take m).take x) c.2
    rw [List.take_take, Nat.min_eq_left (Nat.le_of_lt hxm)]
    exact I.quiet x (List.mem_of_mem_take hx) c hc
  · cases h
  · show m ≤ (s.tr.take m).length
    omega
  · exact Nat.le_of_lt (mk_take I.mkp hj x hx)
  · exact lower_ge _ _ I.low1 fun l hl => (ab_in (I.inr l (List.mem_of_mem_drop hl))).1
  · obtain ⟨l1, l2⟩ := lower_le (s.tr.drop m) s.lo
    have h2 : n < lower s.lo (s.tr.drop m) := h2
    have key : ∀ x, ab x = n → x ∈ s.tr → x ∈ s.tr.take m := fun x e hx => by
      rw [← List.take_append_drop m s.tr] at hx
      rcases List.mem_append.mp hx with h | h
      · exact h
      · have := l2 x h
        omega
    have hn : ab n = n := ab_pos (by omega)
    rcases I.low n h1 (by omega) with h | h
    · exact .inl (key n hn h)
    · exact .inr (key (-n) (by rw [ab_neg]; exact hn) h)
/-! ### a clause more -/
theorem add_iv {s : SS} (I : Iv s) {c : Cl} (hc : isCl s.many c.2 = true) (hq : ∀ m ∈ s.mks, Quiet (s.tr.take m) c.2) : Iv { s with cl := s.cl ++ [c] } := by
  refine ⟨I.lo0, I.hi, fun x hx => ?_, I.inr, I.nd, I.mkp, I.mklt, I.lev, fun i l h hi => ?_, fun i l r h hr => List.mem_append_left _ (I.rin i l r h hr), fun m hm x hx => ?_, fun x hx => ?_, I.at_, I.atm, I.low1, I.low⟩
  · rcases List.mem_append.mp hx with h | h
    · exact I.cl x h
    · rw [List.mem_singleton.mp h]; exact hc
  · obtain ⟨r, h1, h2, h3, h4⟩ := I.rsn i l h hi
    exact ⟨r, h1, List.mem_append_left _ h2, h3, h4⟩
  · rcases List.mem_append.mp hx with h | h
    · exact I.quiet m hm x h
    · rw [List.mem_singleton.mp h]; exact hq m hm
  · obtain ⟨h1, h2⟩ := I.ks x hx
    exact ⟨List.mem_append_left _ h1, h2⟩
theorem add_pn {s : SS} {E : List Cl} (h : Pn s E) (c : Cl) : Pn { s with cl := s.cl ++ [c] } (c :: E) := by
  intro hk x hx
  rcases List.mem_append.mp hx with hx | hx
  · rcases h hk x hx with h | h
    · exact .inl (List.mem_cons_of_mem _ h)
    · exact .inr h
  · rw [List.mem_singleton.mp hx]; exact .inl List.mem_cons_self
theorem put_ok {s : SS} (I : Iv s) {c : Cl} (hc : isCl s.many c.2 = true) (hq : ∀ m ∈ s.mks, Quiet (s.tr.take m) c.2) : Iv (putS s c) ∧ Ext { s with cl := s.cl ++ [c] } (putS s c) ∧ (putS s c).at_ = s.at_ ∧ (∀ E, Pn s E → Pn (putS s c) E) ∧ (s.ks ≠ none → (putS s c).ks ≠ none) := by
  obtain ⟨h1, h2, h3, h4, h5⟩ := look_ok (add_iv I hc hq) (c := c) (by simp)
  exact ⟨h1, h2, h3, fun E hp => h4 E (add_pn hp c), h5⟩
/-! ### all quiet -/
theorem quiet_of {s : SS} (h : Pn s []) (hk : s.ks = none) (ha : s.at_ = s.tr.length) : ∀ c ∈ s.cl, Quiet s.tr c.2 := by
  intro c hc
  rcases h hk c hc with h | h | ⟨i, l, hi, hl, _⟩
  · cases h
  · exact h
  · have := (List.getElem?_eq_some_iff.mp hl).1
    omega
/-- ahead of the first mark all follows by units -/
theorem tr_der {s : SS} (I : Iv s) : ∀ (n i : Nat) (l : Int), i < n → (∀ m ∈ s.mks, i < m) → s.tr[i]? = some l → Der (s.cl.map (·.2)) [] l
  | 0, i, l, hi, _, _ => by omega
  | n + 1, i, l, hi, hm, h => by
    obtain ⟨r, h1, h2, h3, h4⟩ := I.rsn i l h fun z => by have := hm i z; omega
    refine .unit (List.mem_map.mpr ⟨r, h2, rfl⟩) h3 fun y hy e => ?_
    obtain ⟨k, hk, hk2⟩ := mem_take_ix.mp (h4 y hy e)
    exact tr_der I n k (-y) (by omega) (fun m hm' => by have := hm m hm'; omega) hk2
theorem tr_der0 {s : SS} (I : Iv s) (hm : s.mks = []) {l : Int} (h : l ∈ s.tr) : Der (s.cl.map (·.2)) [] l := by
  obtain ⟨i, hi⟩ := List.getElem?_of_mem h
  exact tr_der I (i + 1) i l (by omega) (by rw [hm]; intro m z; cases z) hi
theorem ks_clash {s : SS} (I : Iv s) (hm : s.mks = []) {c : Cl} (hk : s.ks = some c) : Clashes (s.cl.map (·.2)) [] :=
  .inl ⟨c.2, List.mem_map.mpr ⟨c, (I.ks c hk).1, rfl⟩, fun l hl => tr_der0 I hm ((I.ks c hk).2 l hl)⟩
/-! ### learning -/
structure FI (s : SS) (found : List Int) (place : Int) : Prop where
  nd : found.Nodup
  pos : ∀ y ∈ found, ∃ i : Nat, (i : Int) ≤ place ∧ s.tr[i]? = some (-y)
  clash : Clashes (s.cl.map (·.2)) (found.map fun l => -l)
  one : ∃ y ∈ found, s.lv (ab y) = s.mks.length
  plt : place < s.tr.length
theorem last_mark {s : SS} (hm : s.mks ≠ []) : ∃ m, s.mks[s.mks.length - 1]? = some m := by
  have : s.mks.length - 1 < s.mks.length := by
    have := List.length_pos_iff.mpr hm
    omega
  exact ⟨_, List.getElem?_eq_getElem this⟩
theorem lv_len {s : SS} (I : Iv s) {i : Nat} {l : Int} (h : s.tr[i]? = some l) : s.lv (ab l) ≤ s.mks.length := by
  rw [I.lev i l h]
  have := List.length_filter_le (fun m => decide (m ≤ i)) s.mks
  omega
/-- at the last mark, or behind it: exactly those of the last level -/
theorem lv_now {s : SS} (I : Iv s) {i m : Nat} {l : Int} (h : s.tr[i]? = some l) (hm : s.mks[s.mks.length - 1]? = some m) : s.lv (ab l) = s.mks.length ↔ m ≤ i := by
  have hlt := (List.getElem?_eq_some_iff.mp hm).1
  rw [I.lev i l h]
  constructor
  · intro e
    rcases Nat.lt_or_ge i m with k | k
    · have := lvl_le I.mkp hm k
      omega
    · exact k
  · intro k
    have h1 := lvl_ge I.mkp hm k
    have h2 := List.length_filter_le (fun m => decide (m ≤ i)) s.mks
    omega
theorem FI.start {s : SS} (I : Iv s) {c : Cl} (hk : s.ks = some c) (hm : s.mks ≠ []) : FI s c.2 ((s.tr.length : Int) - 1) := by
  obtain ⟨h1, h2⟩ := I.ks c hk
  have hpos : ∀ y ∈ c.2, ∃ i : Nat, (i : Int) ≤ (s.tr.length : Int) - 1 ∧ s.tr[i]? = some (-y) := fun y hy => by
    obtain ⟨i, hi⟩ := List.getElem?_of_mem (h2 y hy)
    have := (List.getElem?_eq_some_iff.mp hi).1
    exact ⟨i, by omega, hi⟩
  refine ⟨pw_nodup (isCl_iff.mp (I.cl c h1)).2, hpos, .inl ⟨c.2, List.mem_map.mpr ⟨c, h1, rfl⟩, fun l hl => .given (List.mem_map.mpr ⟨l, hl, rfl⟩)⟩, ?_, by omega⟩
  obtain ⟨m, hml⟩ := last_mark hm
  rcases I.quiet m (List.mem_of_getElem? hml) c h1 with ⟨l, k1, k2⟩ | ⟨a, ha, b, hb, hab, o1, o2⟩
  · exact absurd (h2 l k1) (I.cons (List.mem_of_mem_take k2))
  · obtain ⟨i, hi, hi2⟩ := hpos a ha
    refine ⟨a, ha, ?_⟩
    have : m ≤ i := by
      rcases Nat.lt_or_ge i m with k | k
      · exact absurd (mem_take_ix.mpr ⟨i, k, hi2⟩) o1
      · exact k
    have := (lv_now I hi2 hml).mpr this
    rw [ab_neg] at this
    exact this
/-- the place is none of found's -/
theorem FI.down {s : SS} {found : List Int} {p : Nat} (F : FI s found p) {l : Int} (hp : s.tr[p]? = some l) (hn : -l ∉ found) : FI s found ((p : Int) - 1) := by
  refine ⟨F.nd, fun y hy => ?_, F.clash, F.one, by have := F.plt; omega⟩
  obtain ⟨i, hi, hi2⟩ := F.pos y hy
  refine ⟨i, ?_, hi2⟩
  by_cases e : i = p
  · rw [e, hp] at hi2
    have : l = -y := Option.some.inj hi2
    rw [this, Int.neg_neg] at hn
    exact absurd hy hn
  · omega
theorem FI.nonneg {s : SS} {found : List Int} {place : Int} (F : FI s found place) : 0 ≤ place := by
  obtain ⟨y, hy, _⟩ := F.one
  obtain ⟨i, hi, _⟩ := F.pos y hy
  omega
def resolved (found r : List Int) (l : Int) : List Int := found.erase (-l) ++ r.filter fun y => decide (y ≠ l) && decide (y ∉ found.erase (-l))
theorem FI.step {s : SS} (I : Iv s) (hm : s.mks ≠ []) {found : List Int} {p : Nat} (F : FI s found p) {l : Int} (hp : s.tr[p]? = some l) (hin : -l ∈ found) (h2 : 2 ≤ (found.filter fun y => decide (s.lv (ab y) = s.mks.length)).length) :
    ∃ r, s.rs (ab l) = some r ∧ r ∈ s.cl ∧ FI s (resolved found r.2 l) ((p : Int) - 1) := by
  obtain ⟨m, hml⟩ := last_mark hm
  have hnf : (found.filter fun y => decide (s.lv (ab y) = s.mks.length)).Nodup := F.nd.filter _
  obtain ⟨a, b, ha, hb, hab⟩ : ∃ a b, a ∈ found.filter (fun y => decide (s.lv (ab y) = s.mks.length)) ∧ b ∈ found.filter (fun y => decide (s.lv (ab y) = s.mks.length)) ∧ a ≠ b := by
    match h : found.filter (fun y => decide (s.lv (ab y) = s.mks.length)), h2, hnf with
    | a :: b :: r, _, n => exact ⟨a, b, by simp, by simp, fun e => by subst e; simp at n⟩
  rw [List.mem_filter] at ha hb
  obtain ⟨i, hi, hi2⟩ := F.pos a ha.1
  obtain ⟨j, hj, hj2⟩ := F.pos b hb.1
  have hia : m ≤ i := (lv_now I hi2 hml).mp (by rw [ab_neg]; exact of_decide_eq_true ha.2)
  have hjb : m ≤ j := (lv_now I hj2 hml).mp (by rw [ab_neg]; exact of_decide_eq_true hb.2)
  have hij : i ≠ j := fun e => by
    rw [e, hj2] at hi2
    exact hab (by have := Option.some.inj hi2; omega)
  have hpm : m < p := by omega
  have hpn : p ∉ s.mks := fun h => by
    obtain ⟨k, hk⟩ := List.getElem?_of_mem h
    have hk1 := (List.getElem?_eq_some_iff.mp hk).1
    rcases Nat.lt_or_ge k (s.mks.length - 1) with q | q
    · have := pw_lt I.mkp hk hml q
      omega
    · have : k = s.mks.length - 1 := by omega
      rw [this, hml] at hk
      have := Option.some.inj hk
      omega
  obtain ⟨r, k1, k2, k3, k4⟩ := I.rsn p l hp hpn
  refine ⟨r, k1, k2, ?_⟩
  have me : ∀ y, y ∈ found.erase (-l) ↔ y ≠ -l ∧ y ∈ found := fun y => F.nd.mem_erase_iff
  have mr : ∀ y, y ∈ resolved found r.2 l ↔ y ∈ found.erase (-l) ∨ (y ∈ r.2 ∧ y ≠ l ∧ y ∉ found.erase (-l)) := by
    intro y
    unfold resolved
    rw [List.mem_append, List.mem_filter, Bool.and_eq_true, decide_eq_true_eq, decide_eq_true_eq]
  refine ⟨?_, fun y hy => ?_, ?_, ?_, by have := F.plt; omega⟩
  · unfold resolved
    rw [List.nodup_append]
    refine ⟨F.nd.erase _, (pw_nodup (isCl_iff.mp (I.cl r k2)).2).filter _, fun x hx y hy e => ?_⟩
    rw [List.mem_filter, Bool.and_eq_true, decide_eq_true_eq, decide_eq_true_eq] at hy
    exact hy.2.2 (e ▸ hx)
  · rcases (mr y).mp hy with h | ⟨h, hne, _⟩
    · obtain ⟨h1, h3⟩ := (me y).mp h
      obtain ⟨q, hq, hq2⟩ := F.pos y h3
      refine ⟨q, ?_, hq2⟩
      have : q ≠ p := fun e => by
        rw [e, hp] at hq2
        have := Option.some.inj hq2
        exact h1 (by omega)
      omega
    · obtain ⟨q, hq, hq2⟩ := mem_take_ix.mp (k4 y h hne)
      exact ⟨q, by omega, hq2⟩
  · refine F.clash.cut' (fun c h => h) fun g hg => ?_
    obtain ⟨y, hy, rfl⟩ := List.mem_map.mp hg
    by_cases e : y = -l
    · rw [e, Int.neg_neg]
      refine .unit (List.mem_map.mpr ⟨r, k2, rfl⟩) k3 fun z hz hne => .given (List.mem_map.mpr ⟨z, ?_, rfl⟩)
      by_cases q : z ∈ found.erase (-l)
      · exact (mr z).mpr (.inl q)
      · exact (mr z).mpr (.inr ⟨hz, hne, q⟩)
    · exact .given (List.mem_map.mpr ⟨y, (mr y).mpr (.inl ((me y).mpr ⟨e, hy⟩)), rfl⟩)
  · by_cases e : a = -l
    · exact ⟨b, (mr b).mpr (.inl ((me b).mpr ⟨fun z => hab (e.trans z.symm), hb.1⟩)), of_decide_eq_true hb.2⟩
    · exact ⟨a, (mr a).mpr (.inl ((me a).mpr ⟨e, ha.1⟩)), of_decide_eq_true ha.2⟩
/-- a clause learnt, and the level to go back to -/
structure LearnOk (s : SS) (c : List Int) (j m : Nat) : Prop where
  cl : isCl s.many c = true
  rup : Rup (s.cl.map (·.2)) c
  at_ : s.mks[j]? = some m
  open_ : ∃ u ∈ c, u ∉ s.tr.take m ∧ -u ∉ s.tr.take m ∧ ∀ y ∈ c, y ≠ u → -y ∈ s.tr.take m
  quiet : ∀ i x, i < j → s.mks[i]? = some x → Quiet (s.tr.take x) c
def kept (s : SS) (found : List Int) : List Int := found.filter fun y => decide (0 < s.lv (ab y))
def lvls (s : SS) (found : List Int) : List Int := srt ((kept s found).map fun y => s.lv (ab y))
theorem learn_ok {s : SS} (I : Iv s) (hm : s.mks ≠ []) {found : List Int} {p : Int} (F : FI s found p) (h1 : (found.filter fun y => decide (s.lv (ab y) = s.mks.length)).length ≤ 1) :
    ∃ j m, LearnOk s (srt (kept s found)) j m ∧ ((lvls s found).length ≤ 1 → j = 0) ∧ (1 < (lvls s found).length → (lvls s found)[(lvls s found).length - 2]? = some (j : Int)) := by
  obtain ⟨u, hu, hul⟩ := F.one
  have hml : 0 < s.mks.length := List.length_pos_iff.mpr hm
  -- u alone is of the last level
  have only : ∀ y ∈ found, s.lv (ab y) = s.mks.length → y = u := by
    intro y hy e
    have hy' : y ∈ found.filter (fun y => decide (s.lv (ab y) = s.mks.length)) := List.mem_filter.mpr ⟨hy, decide_eq_true e⟩
    have hu' : u ∈ found.filter (fun y => decide (s.lv (ab y) = s.mks.length)) := List.mem_filter.mpr ⟨hu, decide_eq_true hul⟩
    match h : found.filter (fun y => decide (s.lv (ab y) = s.mks.length)), h1 with
    | [], _ => rw [h] at hy'; cases hy'
    | [z], _ =>
      rw [h] at hy' hu'
      exact (List.mem_singleton.mp hy').trans (List.mem_singleton.mp hu').symm
    | a :: b :: r, q => simp at q
  have mk' : ∀ y, y ∈ kept s found ↔ y ∈ found ∧ 0 < s.lv (ab y) := fun y => by
    unfold kept
    rw [List.mem_filter, decide_eq_true_eq]
  have huk : u ∈ kept s found := (mk' u).mpr ⟨hu, by omega⟩
  have hnk : (kept s found).Nodup := F.nd.filter _
  have hle : ∀ y ∈ found, s.lv (ab y) ≤ s.mks.length := fun y hy => by
    obtain ⟨i, _, hi⟩ := F.pos y hy
    have := lv_len I hi
    rwa [ab_neg] at this
  have pk := List.perm_cons_erase huk
  -- the levels of the others
  have pl : (lvls s found).Perm ((s.mks.length : Int) :: ((kept s found).erase u).map fun y => s.lv (ab y)) := by
    refine (srt_perm _).trans ?_
    have := pk.map fun y => s.lv (ab y)
    rw [List.map_cons, hul] at this
    exact this
  have spw := srt_pw ((kept s found).map fun y => s.lv (ab y))
  have me : ∀ y, y ∈ (kept s found).erase u ↔ y ≠ u ∧ y ∈ kept s found := fun y => hnk.mem_erase_iff
  have olt : ∀ y ∈ (kept s found).erase u, s.lv (ab y) < s.mks.length := fun y hy => by
    obtain ⟨n, hy⟩ := (me y).mp hy
    have hf := ((mk' y).mp hy).1
    rcases Int.lt_or_eq_of_le (hle y hf) with h | h
    · exact h
    · exact absurd (only y hf h) n
  -- the level j: none of the others is above, some is at it
  obtain ⟨j, hj0, hjle, hjeq, hj1, hj2⟩ : ∃ j : Nat, j < s.mks.length ∧ (∀ y ∈ (kept s found).erase u, s.lv (ab y) ≤ j) ∧ (0 < j → ∃ y ∈ (kept s found).erase u, s.lv (ab y) = j) ∧ ((lvls s found).length ≤ 1 → j = 0) ∧ (1 < (lvls s found).length → (lvls s found)[(lvls s found).length - 2]? = some (j : Int)) := by
    rcases List.eq_nil_or_concat (lvls s found) with e | ⟨L, x, e⟩
    · rw [e] at pl
      have := pl.length_eq
      simp at this
    · rw [List.concat_eq_append] at e
      rw [e] at pl
      have hL : lvls s found = srt ((kept s found).map fun y => s.lv (ab y)) := rfl
      rw [← hL, e, List.pairwise_append] at spw
      -- x is the last level
      have hx : x = s.mks.length := by
        have h1 : (s.mks.length : Int) ∈ L ++ [x] := pl.mem_iff.mpr (by simp)
        have h2 : x ∈ (s.mks.length : Int) :: ((kept s found).erase u).map fun y => s.lv (ab y) := pl.mem_iff.mp (by simp)
        have hxle : x ≤ s.mks.length := by
          rcases List.mem_cons.mp h2 with h | h
          · omega
          · obtain ⟨y, hy, rfl⟩ := List.mem_map.mp h
            exact Int.le_of_lt (olt y hy)
        rcases List.mem_append.mp h1 with h | h
        · have := spw.2.2 _ h x (by simp)
          omega
        · exact (List.mem_singleton.mp h).symm
      rw [hx] at pl
      have pL : L.Perm (((kept s found).erase u).map fun y => s.lv (ab y)) := by
        have : ((s.mks.length : Int) :: L).Perm ((s.mks.length : Int) :: ((kept s found).erase u).map fun y => s.lv (ab y)) := (List.perm_append_comm (l₁ := [(s.mks.length : Int)])).trans pl
        exact (List.perm_cons _).mp this
      rcases List.eq_nil_or_concat L with e2 | ⟨M, z, e2⟩
      · rw [e2] at pL
        have h0 : (kept s found).erase u = [] := by
          have := pL.length_eq
          rw [List.length_map] at this
          exact List.length_eq_zero_iff.mp this.symm
        refine ⟨0, hml, (by rw [h0]; intro y hy; cases hy), fun h => absurd h (by omega), fun _ => rfl, fun h => ?_⟩
        rw [e, e2] at h
        simp at h
      · rw [List.concat_eq_append] at e2
        rw [e2] at pL spw
        have hz : z ∈ ((kept s found).erase u).map fun y => s.lv (ab y) := pL.mem_iff.mp (by simp)
        obtain ⟨y0, hy0, hz0⟩ := List.mem_map.mp hz
        have hz0 : s.lv (ab y0) = z := hz0
        have hy0k := ((mk' y0).mp ((me y0).mp hy0).2)
        have hzl := olt y0 hy0
        have hjz : ((z.toNat : Nat) : Int) = z := Int.toNat_of_nonneg (by omega)
        refine ⟨z.toNat, by omega, fun y hy => ?_, fun _ => ⟨y0, hy0, by omega⟩, fun h => ?_, fun _ => ?_⟩
        · have hy2 : s.lv (ab y) ∈ M ++ [z] := pL.mem_iff.mpr (List.mem_map.mpr ⟨y, hy, rfl⟩)
          rw [hjz]
          rcases List.mem_append.mp hy2 with h | h
          · exact (List.pairwise_append.mp spw.1).2.2 _ h z (by simp)
          · rw [List.mem_singleton.mp h]; exact Int.le_refl _
        · rw [e, e2] at h
          simp at h
        · rw [e, e2, hjz]
          simp
  obtain ⟨m, hjm⟩ : ∃ m, s.mks[j]? = some m := ⟨_, List.getElem?_eq_getElem hj0⟩
  -- places
  have lowpos : ∀ y ∈ (kept s found).erase u, -y ∈ s.tr.take m := fun y hy => by
    have hf := ((mk' y).mp ((me y).mp hy).2).1
    obtain ⟨i, _, hi⟩ := F.pos y hf
    refine mem_take_ix.mpr ⟨i, ?_, hi⟩
    rcases Nat.lt_or_ge i m with k | k
    · exact k
    · have h1 := lvl_ge I.mkp hjm k
      have h2 := I.lev i (-y) hi
      rw [ab_neg] at h2
      have := hjle y hy
      omega
  obtain ⟨iu, _, hiu⟩ := F.pos u hu
  have hum : ∀ (q x : Nat), q < s.mks.length → s.mks[q]? = some x → x ≤ iu := fun q x hq hx => by
    rcases Nat.lt_or_ge iu x with k | k
    · have h1 := lvl_le I.mkp hx k
      have h2 := I.lev iu (-u) hiu
      rw [ab_neg] at h2
      omega
    · exact k
  have opn : ∀ (q x : Nat), q < s.mks.length → s.mks[q]? = some x → u ∉ s.tr.take x ∧ -u ∉ s.tr.take x := fun q x hq hx => by
    have h3 := hum q x hq hx
    refine ⟨fun h => ?_, fun h => ?_⟩
    · exact I.cons (List.mem_of_mem_take h) (List.mem_of_getElem? hiu)
    · obtain ⟨i, hi, hi2⟩ := mem_take_ix.mp h
      have := I.at_one hi2 hiu
      omega
  have ms : ∀ y, y ∈ srt (kept s found) ↔ y ∈ kept s found := fun y => (srt_perm _).mem_iff
  have inrk : ∀ y ∈ kept s found, InR s.many y := fun y hy => by
    obtain ⟨i, _, hi⟩ := F.pos y ((mk' y).mp hy).1
    have := (I.inr _ (List.mem_of_getElem? hi)).neg
    rwa [Int.neg_neg] at this
  refine ⟨j, m, ⟨isCl_iff.mpr ⟨fun y hy => inrk y ((ms y).mp hy), ?_⟩, ?_, hjm, ⟨u, (ms u).mpr huk, (opn j m hj0 hjm).1, (opn j m hj0 hjm).2, fun y hy e => lowpos y ((me y).mpr ⟨e, (ms y).mp hy⟩)⟩, fun i x hi hx => ?_⟩, hj1, hj2⟩
  · have hn : (srt (kept s found)).Nodup := (srt_perm _).nodup_iff.mpr hnk
    have hp := srt_pw (kept s found)
    exact (hp.and hn).imp fun h => by omega
  · -- rup
    refine F.clash.cut' (fun c h => h) fun g hg => ?_
    obtain ⟨y, hy, rfl⟩ := List.mem_map.mp hg
    by_cases e : 0 < s.lv (ab y)
    · exact .given (List.mem_map.mpr ⟨y, (ms y).mpr ((mk' y).mpr ⟨hy, e⟩), rfl⟩)
    · obtain ⟨i, _, hi⟩ := F.pos y hy
      refine (tr_der I (i + 1) i (-y) (by omega) (fun x hx => ?_) hi).mono (fun c h => h) (by intro g h; cases h)
      rcases Nat.lt_or_ge i x with k | k
      · exact k
      · have h2 := I.lev i (-y) hi
        rw [ab_neg] at h2
        have h3 : 0 < (s.mks.filter fun m => decide (m ≤ i)).length := List.length_pos_of_mem (List.mem_filter.mpr ⟨hx, decide_eq_true k⟩)
        omega
  · -- quiet at lower marks
    obtain ⟨y, hy, hyl⟩ := hjeq (by omega)
    obtain ⟨n1, hyk⟩ := (me y).mp hy
    refine .inr ⟨u, (ms u).mpr huk, y, (ms y).mpr hyk, fun e => n1 e.symm, (opn i x (by omega) hx).2, fun h => ?_⟩
    obtain ⟨q, hq, hq2⟩ := mem_take_ix.mp h
    have h1 := lvl_le I.mkp hx hq
    have h2 := I.lev q (-y) hq2
    rw [ab_neg] at h2
    omega
end Nt
set_option maxRecDepth 100000
set_option maxHeartbeats 1000000
/-! NtV0: the search's objects on the heap. -/
namespace Nt
open PySem PySem.Spec PyProof.Rows L2
theorem CLs.upd {H : Hp} {as : List Cl} {x : Addr} {o o' : HO} (h : CLs H as) (hx : H x = some o) (ho : ∀ xs, o ≠ .tup xs) : CLs (upd H x o') as := fun y hy => by
  rw [upd_ne (ne_of (h y hy) hx fun z => ho _ z.symm)]; exact h y hy
def oV (c : Option Cl) : V := match c with
  | none => .non
  | some c => rf c
structure Ad where
  dx : Addr
  a : Addr
  b : Addr
  u : Addr
  v : Addr
  r : Addr
  t : Addr
  k : Addr
  e : Addr
  kb : List (Key × V)
def fsOf (A : Ad) (s : SS) : List (Str × V) := [("many", .int s.many), ("clauses", .ref A.a), ("by", .ref A.b), ("sure", .ref A.u), ("level", .ref A.v), ("reason", .ref A.r), ("trail", .ref A.t), ("at", .int s.at_), ("marks", .ref A.k), ("learnt", .ref A.e), ("clash", oV s.ks), ("low", .int s.lo), ("up", .bl s.up)]
/-- keys: distinct, numbers to many -/
structure Sm (many : Int) (kvs : List (Key × V)) : Prop where
  nd : (kvs.map (·.1)).Nodup
  inr : ∀ k ∈ kvs.map (·.1), ∃ i : Int, k = .inl i ∧ 0 ≤ i ∧ i ≤ many
theorem Sm.nil (many : Int) : Sm many [] := ⟨List.nodup_nil, fun k h => by cases h⟩
theorem Sm.len {many : Int} {kvs : List (Key × V)} (h : Sm many kvs) : kvs.length ≤ many.toNat + 1 := by
  have := List.Nodup.length_le_of_subset h.nd (l₂ := (List.range (many.toNat + 1)).map fun (i : Nat) => (Sum.inl (i : Int) : Key)) fun k hk => by
    obtain ⟨i, rfl, h1, h2⟩ := h.inr k hk
    exact List.mem_map.mpr ⟨i.toNat, List.mem_range.mpr (by omega), by rw [Int.toNat_of_nonneg h1]⟩
  simpa using this
theorem Sm.put {many : Int} {kvs : List (Key × V)} (h : Sm many kvs) {i : Int} (h0 : 0 ≤ i) (h1 : i ≤ many) (v : V) : Sm many (putK kvs (.inl i) v) := by
  cases e : valV kvs (.inl i : Key) with
  | none =>
    rw [putK_new _ e]
    have hn : (Sum.inl i : Key) ∉ kvs.map (·.1) := fun z => absurd (valV_not e) (fun q => q z)
    refine ⟨?_, fun k hk => ?_⟩
    · rw [List.map_append, List.nodup_append]
      exact ⟨h.nd, by simp, fun a ha b hb e => hn (by rw [← show b = Sum.inl i by simpa using hb, ← e]; exact ha)⟩
    · rw [List.map_append] at hk
      rcases List.mem_append.mp hk with hk | hk
      · exact h.inr k hk
      · exact ⟨i, by simpa using hk, h0, h1⟩
  | some w =>
    have e2 : (putK kvs (.inl i) v).map (·.1) = kvs.map (·.1) := by
      unfold putK
      rw [if_pos (by rw [valV_any, e]; rfl), List.map_map]
      refine List.map_congr_left fun x _ => ?_
      show (if x.1 = Sum.inl i then (x.1, v) else x).1 = x.1
      split <;> rfl
    exact ⟨by rw [e2]; exact h.nd, by rw [e2]; exact h.inr⟩
structure Fx (H0 : Hp) (p : Addr) (A : Ad) : Prop where
  fp : H0 p = none
  fa : H0 A.a = none
  fb : H0 A.b = none
  fu : H0 A.u = none
  fv : H0 A.v = none
  fr : H0 A.r = none
  ft : H0 A.t = none
  fk : H0 A.k = none
  fe : H0 A.e = none
  n_at : A.a ≠ A.t
  n_ak : A.a ≠ A.k
  n_ae : A.a ≠ A.e
  n_tk : A.t ≠ A.k
  n_te : A.t ≠ A.e
  n_ke : A.k ≠ A.e
  n_bu : A.b ≠ A.u
  n_bv : A.b ≠ A.v
  n_br : A.b ≠ A.r
  n_uv : A.u ≠ A.v
  n_ur : A.u ≠ A.r
  n_vr : A.v ≠ A.r
/-- the search at p, its objects at A; S: what stands in sure; B: what by tells of -/
structure SAt (K : PySem.W.Frag) (H0 H : Hp) (p : Addr) (A : Ad) (s : SS) (S : List Int) (B : List (List Int)) : Prop where
  fx : Fx H0 p A
  same : Same H0 H
  cls : CLs H s.cl
  ins : H p = some (.ins (He.ga K "Search") A.dx (fsOf A s))
  ha : H A.a = some (.lst (s.cl.map rf))
  by_ : ByAt H0 H A.b [A.a, A.t, A.k, A.e] A.kb B
  hu : H A.u = some (.dK (S.map fun l => (.inl l, .bl true)))
  hv : ∃ kvs, H A.v = some (.dK kvs) ∧ Sm s.many kvs ∧ ∀ l ∈ s.tr, valV kvs (.inl (ab l)) = some (.int (s.lv (ab l)))
  hr : ∃ kvs, H A.r = some (.dK kvs) ∧ Sm s.many kvs ∧ ∀ l ∈ s.tr, valV kvs (.inl (ab l)) = some (oV (s.rs (ab l)))
  ht : H A.t = some (.lst (s.tr.map V.int))
  hk : H A.k = some (.lst (s.mks.map fun m => .int (m : Nat)))
  he : H A.e = some (.lst (s.ln.map rf))
abbrev SAt1 (K : PySem.W.Frag) (H0 H : Hp) (p : Addr) (A : Ad) (s : SS) : Prop := SAt K H0 H p A s s.tr (s.cl.map (·.2))
section
variable {K : PySem.W.Frag} {H0 H H' : Hp} {p : Addr} {A : Ad} {s : SS} {S : List Int} {B : List (List Int)}
theorem SAt.grow (h : SAt K H0 H p A s S B) (g : Same H H') : SAt K H0 H' p A s S B := by
  have hB := h.by_
  obtain ⟨kv, hv1, hv2, hv3⟩ := h.hv
  obtain ⟨kr, hr1, hr2, hr3⟩ := h.hr
  exact ⟨h.fx, h.same.trans g, h.cls.mono g, g _ _ h.ins, g _ _ h.ha, hB.same g, g _ _ h.hu, ⟨kv, g _ _ hv1, hv2, hv3⟩, ⟨kr, g _ _ hr1, hr2, hr3⟩, g _ _ h.ht, g _ _ h.hk, g _ _ h.he⟩
theorem SAt.updP (h : SAt K H0 H p A s S B) (n : Nat) (k : Option Cl) (lo : Int) (up : Bool) : SAt K H0 (upd H p (.ins (He.ga K "Search") A.dx (fsOf A { s with at_ := n, ks := k, lo := lo, up := up }))) p A { s with at_ := n, ks := k, lo := lo, up := up } S B := by
  have hB := h.by_
  obtain ⟨kv, hv1, hv2, hv3⟩ := h.hv
  obtain ⟨kr, hr1, hr2, hr3⟩ := h.hr
  exact ⟨h.fx, Same.mut h.same h.fx.fp, (h.cls.upd h.ins (by intro xs z; cases z)), upd_same, ((upd_ne (ne_of h.ha h.ins (by intro z; cases z))).trans h.ha), hB.keep (upd_ne (ne_of hB.at_ h.ins (by intro z; cases z))) (fun q xs h1 h2 h3 => upd_ne (ne_of h1 h.ins (by intro z; cases z))), ((upd_ne (ne_of h.hu h.ins (by intro z; cases z))).trans h.hu), ⟨kv, ((upd_ne (ne_of hv1 h.ins (by intro z; cases z))).trans hv1), hv2, hv3⟩, ⟨kr, ((upd_ne (ne_of hr1 h.ins (by intro z; cases z))).trans hr1), hr2, hr3⟩, ((upd_ne (ne_of h.ht h.ins (by intro z; cases z))).trans h.ht), ((upd_ne (ne_of h.hk h.ins (by intro z; cases z))).trans h.hk), ((upd_ne (ne_of h.he h.ins (by intro z; cases z))).trans h.he)⟩
theorem SAt.updA (h : SAt K H0 H p A s S B) {c : Cl} (hc : H c.1 = some (.tup (c.2.map V.int))) : SAt K H0 (upd H A.a (.lst ((s.cl ++ [c]).map rf))) p A { s with cl := s.cl ++ [c] } S B := by
  have hB := h.by_
  obtain ⟨kv, hv1, hv2, hv3⟩ := h.hv
  obtain ⟨kr, hr1, hr2, hr3⟩ := h.hr
  exact ⟨h.fx, Same.mut h.same h.fx.fa, fun y hy => (List.mem_append.mp hy).elim (fun hy => (h.cls.upd h.ha (by intro xs z; cases z)) y hy) (fun hy => by rw [List.mem_singleton.mp hy, upd_ne (ne_of hc h.ha (by intro z; cases z))]; exact hc), ((upd_ne (ne_of h.ins h.ha (by intro z; cases z))).trans h.ins), upd_same, hB.keep (upd_ne (ne_of hB.at_ h.ha (by intro z; cases z))) (fun q xs h1 h2 h3 => upd_ne fun z => h2 (by rw [z]; simp)), ((upd_ne (ne_of h.hu h.ha (by intro z; cases z))).trans h.hu), ⟨kv, ((upd_ne (ne_of hv1 h.ha (by intro z; cases z))).trans hv1), hv2, hv3⟩, ⟨kr, ((upd_ne (ne_of hr1 h.ha (by intro z; cases z))).trans hr1), hr2, hr3⟩, ((upd_ne h.fx.n_at.symm).trans h.ht), ((upd_ne h.fx.n_ak.symm).trans h.hk), ((upd_ne h.fx.n_ae.symm).trans h.he)⟩
theorem SAt.updU (h : SAt K H0 H p A s S B) (S' : List Int) : SAt K H0 (upd H A.u (.dK (S'.map fun l => (.inl l, .bl true)))) p A s S' B := by
  have hB := h.by_
  obtain ⟨kv, hv1, hv2, hv3⟩ := h.hv
  obtain ⟨kr, hr1, hr2, hr3⟩ := h.hr
  exact ⟨h.fx, Same.mut h.same h.fx.fu, (h.cls.upd h.hu (by intro xs z; cases z)), ((upd_ne (ne_of h.ins h.hu (by intro z; cases z))).trans h.ins), ((upd_ne (ne_of h.ha h.hu (by intro z; cases z))).trans h.ha), hB.keep (upd_ne h.fx.n_bu) (fun q xs h1 h2 h3 => upd_ne (ne_of h1 h.hu (by intro z; cases z))), upd_same, ⟨kv, ((upd_ne h.fx.n_uv.symm).trans hv1), hv2, hv3⟩, ⟨kr, ((upd_ne h.fx.n_ur.symm).trans hr1), hr2, hr3⟩, ((upd_ne (ne_of h.ht h.hu (by intro z; cases z))).trans h.ht), ((upd_ne (ne_of h.hk h.hu (by intro z; cases z))).trans h.hk), ((upd_ne (ne_of h.he h.hu (by intro z; cases z))).trans h.he)⟩
theorem SAt.updV (h : SAt K H0 H p A s S B) {kvs : List (Key × V)} (lv : Int → Int) (k1 : Sm s.many kvs) (k2 : ∀ l ∈ s.tr, valV kvs (.inl (ab l)) = some (.int (lv (ab l)))) : SAt K H0 (upd H A.v (.dK kvs)) p A { s with lv := lv } S B := by
  have hB := h.by_
  obtain ⟨kv, hv1, hv2, hv3⟩ := h.hv
  obtain ⟨kr, hr1, hr2, hr3⟩ := h.hr
  exact ⟨h.fx, Same.mut h.same h.fx.fv, (h.cls.upd hv1 (by intro xs z; cases z)), ((upd_ne (ne_of h.ins hv1 (by intro z; cases z))).trans h.ins), ((upd_ne (ne_of h.ha hv1 (by intro z; cases z))).trans h.ha), hB.keep (upd_ne h.fx.n_bv) (fun q xs h1 h2 h3 => upd_ne (ne_of h1 hv1 (by intro z; cases z))), ((upd_ne h.fx.n_uv).trans h.hu), ⟨_, upd_same, k1, k2⟩, ⟨kr, ((upd_ne h.fx.n_vr.symm).trans hr1), hr2, hr3⟩, ((upd_ne (ne_of h.ht hv1 (by intro z; cases z))).trans h.ht), ((upd_ne (ne_of h.hk hv1 (by intro z; cases z))).trans h.hk), ((upd_ne (ne_of h.he hv1 (by intro z; cases z))).trans h.he)⟩
theorem SAt.updR (h : SAt K H0 H p A s S B) {kvs : List (Key × V)} (rs : Int → Option Cl) (k1 : Sm s.many kvs) (k2 : ∀ l ∈ s.tr, valV kvs (.inl (ab l)) = some (oV (rs (ab l)))) : SAt K H0 (upd H A.r (.dK kvs)) p A { s with rs := rs } S B := by
  have hB := h.by_
  obtain ⟨kv, hv1, hv2, hv3⟩ := h.hv
  obtain ⟨kr, hr1, hr2, hr3⟩ := h.hr
  exact ⟨h.fx, Same.mut h.same h.fx.fr, (h.cls.upd hr1 (by intro xs z; cases z)), ((upd_ne (ne_of h.ins hr1 (by intro z; cases z))).trans h.ins), ((upd_ne (ne_of h.ha hr1 (by intro z; cases z))).trans h.ha), hB.keep (upd_ne h.fx.n_br) (fun q xs h1 h2 h3 => upd_ne (ne_of h1 hr1 (by intro z; cases z))), ((upd_ne h.fx.n_ur).trans h.hu), ⟨kv, ((upd_ne h.fx.n_vr).trans hv1), hv2, hv3⟩, ⟨_, upd_same, k1, k2⟩, ((upd_ne (ne_of h.ht hr1 (by intro z; cases z))).trans h.ht), ((upd_ne (ne_of h.hk hr1 (by intro z; cases z))).trans h.hk), ((upd_ne (ne_of h.he hr1 (by intro z; cases z))).trans h.he)⟩
theorem SAt.updT (h : SAt K H0 H p A s S B) (tr : List Int) (k1 : ∀ kvs, H A.v = some (.dK kvs) → ∀ l ∈ tr, valV kvs (.inl (ab l)) = some (.int (s.lv (ab l)))) (k2 : ∀ kvs, H A.r = some (.dK kvs) → ∀ l ∈ tr, valV kvs (.inl (ab l)) = some (oV (s.rs (ab l)))) : SAt K H0 (upd H A.t (.lst (tr.map V.int))) p A { s with tr := tr } S B := by
  have hB := h.by_
  obtain ⟨kv, hv1, hv2, hv3⟩ := h.hv
  obtain ⟨kr, hr1, hr2, hr3⟩ := h.hr
  exact ⟨h.fx, Same.mut h.same h.fx.ft, (h.cls.upd h.ht (by intro xs z; cases z)), ((upd_ne (ne_of h.ins h.ht (by intro z; cases z))).trans h.ins), ((upd_ne h.fx.n_at).trans h.ha), hB.keep (upd_ne (ne_of hB.at_ h.ht (by intro z; cases z))) (fun q xs h1 h2 h3 => upd_ne fun z => h2 (by rw [z]; simp)), ((upd_ne (ne_of h.hu h.ht (by intro z; cases z))).trans h.hu), ⟨kv, ((upd_ne (ne_of hv1 h.ht (by intro z; cases z))).trans hv1), hv2, k1 kv hv1⟩, ⟨kr, ((upd_ne (ne_of hr1 h.ht (by intro z; cases z))).trans hr1), hr2, k2 kr hr1⟩, upd_same, ((upd_ne h.fx.n_tk.symm).trans h.hk), ((upd_ne h.fx.n_te.symm).trans h.he)⟩
theorem SAt.updK (h : SAt K H0 H p A s S B) (mks : List Nat) : SAt K H0 (upd H A.k (.lst (mks.map fun m => .int (m : Nat)))) p A { s with mks := mks } S B := by
  have hB := h.by_
  obtain ⟨kv, hv1, hv2, hv3⟩ := h.hv
  obtain ⟨kr, hr1, hr2, hr3⟩ := h.hr
  exact ⟨h.fx, Same.mut h.same h.fx.fk, (h.cls.upd h.hk (by intro xs z; cases z)), ((upd_ne (ne_of h.ins h.hk (by intro z; cases z))).trans h.ins), ((upd_ne h.fx.n_ak).trans h.ha), hB.keep (upd_ne (ne_of hB.at_ h.hk (by intro z; cases z))) (fun q xs h1 h2 h3 => upd_ne fun z => h2 (by rw [z]; simp)), ((upd_ne (ne_of h.hu h.hk (by intro z; cases z))).trans h.hu), ⟨kv, ((upd_ne (ne_of hv1 h.hk (by intro z; cases z))).trans hv1), hv2, hv3⟩, ⟨kr, ((upd_ne (ne_of hr1 h.hk (by intro z; cases z))).trans hr1), hr2, hr3⟩, ((upd_ne h.fx.n_tk).trans h.ht), upd_same, ((upd_ne h.fx.n_ke.symm).trans h.he)⟩
theorem SAt.updE (h : SAt K H0 H p A s S B) (ln : List Cl) : SAt K H0 (upd H A.e (.lst (ln.map rf))) p A { s with ln := ln } S B := by
  have hB := h.by_
  obtain ⟨kv, hv1, hv2, hv3⟩ := h.hv
  obtain ⟨kr, hr1, hr2, hr3⟩ := h.hr
  exact ⟨h.fx, Same.mut h.same h.fx.fe, (h.cls.upd h.he (by intro xs z; cases z)), ((upd_ne (ne_of h.ins h.he (by intro z; cases z))).trans h.ins), ((upd_ne h.fx.n_ae).trans h.ha), hB.keep (upd_ne (ne_of hB.at_ h.he (by intro z; cases z))) (fun q xs h1 h2 h3 => upd_ne fun z => h2 (by rw [z]; simp)), ((upd_ne (ne_of h.hu h.he (by intro z; cases z))).trans h.hu), ⟨kv, ((upd_ne (ne_of hv1 h.he (by intro z; cases z))).trans hv1), hv2, hv3⟩, ⟨kr, ((upd_ne (ne_of hr1 h.he (by intro z; cases z))).trans hr1), hr2, hr3⟩, ((upd_ne h.fx.n_te).trans h.ht), ((upd_ne h.fx.n_ke).trans h.hk), upd_same⟩
/-- what a new object at x keeps, and then the record -/
theorem SAt.newT (h : SAt K H0 H p A s S B) {x : Addr} (hx : H x = none) (tr : List Int) (hs : ∀ l ∈ tr, l ∈ s.tr) : SAt K H0 (upd (upd H x (.lst (tr.map V.int))) p (.ins (He.ga K "Search") A.dx (fsOf { A with t := x } { s with tr := tr }))) p { A with t := x } { s with tr := tr } S B := by
  have g := Same.new (o := .lst (tr.map V.int)) hx
  have hg := h.grow g
  have hB := h.by_
  obtain ⟨kv, hv1, hv2, hv3⟩ := hg.hv
  obtain ⟨kr, hr1, hr2, hr3⟩ := hg.hr
  have f := h.fx
  have hxp : x ≠ p := (ne_of_none h.ins hx).symm
  have d : ∀ y o, upd H x (.lst (tr.map V.int)) y = some o → y ≠ p → upd (upd H x (.lst (tr.map V.int))) p (.ins (He.ga K "Search") A.dx (fsOf { A with t := x } { s with tr := tr })) y = some o := fun y o e n => by rw [upd_ne n]; exact e
  refine ⟨⟨f.fp, f.fa, f.fb, f.fu, f.fv, f.fr, h.same.free hx, f.fk, f.fe, ne_of_none h.ha hx, f.n_ak, f.n_ae, (ne_of_none h.hk hx).symm, (ne_of_none h.he hx).symm, f.n_ke, f.n_bu, f.n_bv, f.n_br, f.n_uv, f.n_ur, f.n_vr⟩,
    Same.mut (h.same.trans g) f.fp, hg.cls.upd hg.ins (by intro xs z; cases z), upd_same, d _ _ hg.ha (ne_of hg.ha hg.ins (by intro z; cases z)), ?_, d _ _ hg.hu (ne_of hg.hu hg.ins (by intro z; cases z)), ⟨kv, d _ _ hv1 (ne_of hv1 hg.ins (by intro z; cases z)), hv2, fun l hl => hv3 l (hs l hl)⟩, ⟨kr, d _ _ hr1 (ne_of hr1 hg.ins (by intro z; cases z)), hr2, fun l hl => hr3 l (hs l hl)⟩, d _ _ upd_same hxp, d _ _ hg.hk (ne_of hg.hk hg.ins (by intro z; cases z)), d _ _ hg.he (ne_of hg.he hg.ins (by intro z; cases z))⟩
  refine ((hB.frame (ey := [A.a, x, A.k, A.e]) fun q xs h1 h2 h3 => ⟨h3, ?_⟩).same g).keep (upd_ne (ne_of (hB.same g).at_ hg.ins (by intro z; cases z))) fun q xs h1 h2 h3 => upd_ne (ne_of h1 hg.ins (by intro z; cases z))
  simp only [List.mem_cons, List.not_mem_nil, or_false, not_or] at h2 ⊢
  exact ⟨h2.1, ne_of_none h1 hx, h2.2.2.1, h2.2.2.2⟩
theorem SAt.newK (h : SAt K H0 H p A s S B) {x : Addr} (hx : H x = none) (mks : List Nat) : SAt K H0 (upd (upd H x (.lst (mks.map fun m => .int (m : Nat)))) p (.ins (He.ga K "Search") A.dx (fsOf { A with k := x } { s with mks := mks }))) p { A with k := x } { s with mks := mks } S B := by
  have g := Same.new (o := .lst (mks.map fun m => .int (m : Nat))) hx
  have hg := h.grow g
  have hB := h.by_
  obtain ⟨kv, hv1, hv2, hv3⟩ := hg.hv
  obtain ⟨kr, hr1, hr2, hr3⟩ := hg.hr
  have f := h.fx
  have hxp : x ≠ p := (ne_of_none h.ins hx).symm
  have d : ∀ y o, upd H x (.lst (mks.map fun m => .int (m : Nat))) y = some o → y ≠ p → upd (upd H x (.lst (mks.map fun m => .int (m : Nat)))) p (.ins (He.ga K "Search") A.dx (fsOf { A with k := x } { s with mks := mks })) y = some o := fun y o e n => by rw [upd_ne n]; exact e
  refine ⟨⟨f.fp, f.fa, f.fb, f.fu, f.fv, f.fr, f.ft, h.same.free hx, f.fe, f.n_at, ne_of_none h.ha hx, f.n_ae, ne_of_none h.ht hx, f.n_te, (ne_of_none h.he hx).symm, f.n_bu, f.n_bv, f.n_br, f.n_uv, f.n_ur, f.n_vr⟩,
    Same.mut (h.same.trans g) f.fp, hg.cls.upd hg.ins (by intro xs z; cases z), upd_same, d _ _ hg.ha (ne_of hg.ha hg.ins (by intro z; cases z)), ?_, d _ _ hg.hu (ne_of hg.hu hg.ins (by intro z; cases z)), ⟨kv, d _ _ hv1 (ne_of hv1 hg.ins (by intro z; cases z)), hv2, hv3⟩, ⟨kr, d _ _ hr1 (ne_of hr1 hg.ins (by intro z; cases z)), hr2, hr3⟩, d _ _ hg.ht (ne_of hg.ht hg.ins (by intro z; cases z)), d _ _ upd_same hxp, d _ _ hg.he (ne_of hg.he hg.ins (by intro z; cases z))⟩
  refine ((hB.frame (ey := [A.a, A.t, x, A.e]) fun q xs h1 h2 h3 => ⟨h3, ?_⟩).same g).keep (upd_ne (ne_of (hB.same g).at_ hg.ins (by intro z; cases z))) fun q xs h1 h2 h3 => upd_ne (ne_of h1 hg.ins (by intro z; cases z))
  simp only [List.mem_cons, List.not_mem_nil, or_false, not_or] at h2 ⊢
  exact ⟨h2.1, h2.2.1, ne_of_none h1 hx, h2.2.2.2⟩
/-- a frame that knows more: what is new, or changed outside -/
theorem SAt.frame (h : SAt K H0 H p A s S B) {x : Addr} {o : HO} (hx : H x = none ∨ ∃ o1, H0 x = some o1) (ho : CLs (upd H x o) s.cl) : SAt K (upd H0 x o) (upd H x o) p A s S B := by
  have hB := h.by_
  obtain ⟨kv, hv1, hv2, hv3⟩ := h.hv
  obtain ⟨kr, hr1, hr2, hr3⟩ := h.hr
  have f := h.fx
  have nx : ∀ y o1, H y = some o1 → H0 y = none → y ≠ x := fun y o1 h1 h2 e => by
    subst e
    rcases hx with hx | ⟨o2, hx⟩
    · rw [hx] at h1; cases h1
    · rw [hx] at h2; cases h2
  have n0 : ∀ y o1, H y = some o1 → H0 y = none → upd H0 x o y = none := fun y o1 h1 h2 => by rw [upd_ne (nx y o1 h1 h2)]; exact h2
  have n1 : ∀ y o1, H y = some o1 → H0 y = none → upd H x o y = some o1 := fun y o1 h1 h2 => by rw [upd_ne (nx y o1 h1 h2)]; exact h1
  refine ⟨⟨n0 _ _ h.ins f.fp, n0 _ _ h.ha f.fa, n0 _ _ hB.at_ f.fb, n0 _ _ h.hu f.fu, n0 _ _ hv1 f.fv, n0 _ _ hr1 f.fr, n0 _ _ h.ht f.ft, n0 _ _ h.hk f.fk, n0 _ _ h.he f.fe, f.n_at, f.n_ak, f.n_ae, f.n_tk, f.n_te, f.n_ke, f.n_bu, f.n_bv, f.n_br, f.n_uv, f.n_ur, f.n_vr⟩,
    fun y o1 e => ?_, ho, n1 _ _ h.ins f.fp, n1 _ _ h.ha f.fa, ?_, n1 _ _ h.hu f.fu, ⟨kv, n1 _ _ hv1 f.fv, hv2, hv3⟩, ⟨kr, n1 _ _ hr1 f.fr, hr2, hr3⟩, n1 _ _ h.ht f.ft, n1 _ _ h.hk f.fk, n1 _ _ h.he f.fe⟩
  · by_cases e2 : y = x
    · subst e2; rw [upd_same] at e ⊢; exact e
    · rw [upd_ne e2] at e ⊢; exact h.same _ _ e
  · exact ⟨n1 _ _ hB.at_ f.fb, fun l => (hB.get l).imp id fun ⟨q, h1, h2, h3, h4⟩ => ⟨q, h1, n1 _ _ h2 h3, n0 _ _ h2 h3, h4⟩, hB.inj, hB.len⟩
/-- a frame that knows less -/
theorem SAt.less (h : SAt K H0 H p A s S B) {H1 : Hp} (g : Same H1 H0) : SAt K H1 H p A s S B := by
  have hB := h.by_
  have f := h.fx
  exact ⟨⟨g.free f.fp, g.free f.fa, g.free f.fb, g.free f.fu, g.free f.fv, g.free f.fr, g.free f.ft, g.free f.fk, g.free f.fe, f.n_at, f.n_ak, f.n_ae, f.n_tk, f.n_te, f.n_ke, f.n_bu, f.n_bv, f.n_br, f.n_uv, f.n_ur, f.n_vr⟩, g.trans h.same, h.cls, h.ins, h.ha, hB.frame fun q xs h1 h2 h3 => ⟨g.free h3, h2⟩, h.hu, h.hv, h.hr, h.ht, h.hk, h.he⟩
end
end Nt
set_option maxRecDepth 100000
set_option maxHeartbeats 1000000
/-! NtV: the search: make, look, decide, put. -/
namespace Nt
open PySem PySem.Spec PyProof.Rows L2
theorem ab_def (l : Int) : (if l < 0 then -l else l) = ab l := rfl
theorem put_at (A : Ad) (s : SS) (n : Nat) : putF "at" (.int n) (fsOf A s) = fsOf A { s with at_ := n } := rfl
theorem put_clash (A : Ad) (s : SS) (k : Option Cl) : putF "clash" (oV k) (fsOf A s) = fsOf A { s with ks := k } := rfl
theorem put_low (A : Ad) (s : SS) (n : Int) : putF "low" (.int n) (fsOf A s) = fsOf A { s with lo := n } := rfl
theorem put_up (A : Ad) (s : SS) (b : Bool) : putF "up" (.bl b) (fsOf A s) = fsOf A { s with up := b } := rfl
theorem put_trail (A : Ad) (s : SS) (x : Addr) : putF "trail" (.ref x) (fsOf A s) = fsOf { A with t := x } s := rfl
theorem put_marks (A : Ad) (s : SS) (x : Addr) : putF "marks" (.ref x) (fsOf A s) = fsOf { A with k := x } s := rfl
def sp_Search_make (K : PySem.W.Frag) : Sp := fun vs H Q _ => ∃ (p : Addr) (H0 : Hp) (A : Ad) (s : SS) (l : Int) (r : Option Cl), vs = [.ref p, .int l, oV r] ∧ SAt1 K H0 H p A s ∧ InR s.many l ∧ s.many ≤ 30 ∧ 0 ≤ s.many ∧ s.tr.length ≤ 100 ∧ (∀ x ∈ s.tr, ab x ≠ ab l) ∧
  ∀ H', SAt1 K H0 H' p A (makeF s l r) → Q .non H'
theorem len_Search_make (K : PySem.W.Frag) : ∀ vs H Q E, sp_Search_make K vs H Q E → vs.length = 3 := by
  rintro vs H Q E ⟨p, H0, A, s, l, r, rfl, _⟩; rfl
def sp_Search_look (K : PySem.W.Frag) : Sp := fun vs H Q _ => ∃ (p : Addr) (H0 : Hp) (A : Ad) (s : SS) (c : Cl), vs = [.ref p, rf c] ∧ SAt1 K H0 H p A s ∧ Iv s ∧ c ∈ s.cl ∧
  ∀ H', SAt1 K H0 H' p A (lookF s c) → Q .non H'
theorem len_Search_look (K : PySem.W.Frag) : ∀ vs H Q E, sp_Search_look K vs H Q E → vs.length = 2 := by
  rintro vs H Q E ⟨p, H0, A, s, c, rfl, _⟩; rfl
def sp_Search_decide (K : PySem.W.Frag) : Sp := fun vs H Q _ => ∃ (p : Addr) (H0 : Hp) (A : Ad) (s : SS) (l : Int), vs = [.ref p, .int l] ∧ SAt1 K H0 H p A s ∧ Iv s ∧ InR s.many l ∧ l ∉ s.tr ∧ -l ∉ s.tr ∧
  ∀ H', SAt1 K H0 H' p A (decideF s l) → Q .non H'
theorem len_Search_decide (K : PySem.W.Frag) : ∀ vs H Q E, sp_Search_decide K vs H Q E → vs.length = 2 := by
  rintro vs H Q E ⟨p, H0, A, s, l, rfl, _⟩; rfl
theorem Iv.len100 {s : SS} (I : Iv s) : s.tr.length ≤ 30 := by
  have := I.len
  have := I.hi
  omega
theorem Iv.fresh {s : SS} {l : Int} (n1 : l ∉ s.tr) (n2 : -l ∉ s.tr) : ∀ x ∈ s.tr, ab x ≠ ab l := fun x hx e => by
  rcases ab_eq e with rfl | rfl
  · exact n1 hx
  · exact n2 hx
section
variable {P : Program} {w : World} {K : PySem.W.Frag} {mg : Str → Option Value} {base : Heap}
theorem sc_Search_make : FnScope ["self", "literal", "clause"] ["self", "literal", "clause"] (defScope s_Search_make) := ⟨rfl, rfl, rfl, by decide +kernel, rfl, by decide +kernel, by decide +kernel⟩
theorem ok_Search_make (T : Tx K mg)  : CalF P w K mg base ("Search", some "make") 1 ["self", "literal", "clause"] (sp_Search_make K) := by
  have mg_len : mg "len" = none := T.free 62
  have mg_abs : mg "abs" = none := T.free 54
  have cl_Search : Cls K (He.ga K "Search") := T.cls 89
  have no_Search_sure : NoAttr K (He.ga K "Search") "sure" := T.noat 113
  have no_Search_level : NoAttr K (He.ga K "Search") "level" := T.noat 108
  have no_Search_marks : NoAttr K (He.ga K "Search") "marks" := T.noat 111
  have no_Search_reason : NoAttr K (He.ga K "Search") "reason" := T.noat 112
  have no_Search_trail : NoAttr K (He.ga K "Search") "trail" := T.noat 114
  refine calF T (d := d_Search_make) 17 rfl sc_Search_make rfl rfl (fun _ _ _ _ _ _ us hl => match us, hl with | [_, _, _], _ => rfl) (len_Search_make K) ?_
  intro cdv A outer s H vs Q E hr h
  have hu := hu_of hr
  obtain ⟨p, H0, A, s, l, r, rfl, G, hl, hi, lo, hlen, hf, k⟩ := h
  have hlt : l ∉ s.tr := fun h => hf l h rfl
  have hal := ab_in hl
  refine ⟨_, (pss_cons (ps_dput hu (pe_fld2 cl_Search no_Search_sure (pv 0)) (pv 1) pe_bl rfl)
      (pss_cons (ps_dput hu (pe_fld2 cl_Search no_Search_level (pv 0)) (pe_callB call_abs (by rfl) mg_abs bt_abs (pa_cons (pv 1) pa_nil)) (pe_callB call_len2 (by rfl) mg_len bt_len (pa_cons (pe_fld2 cl_Search no_Search_marks (pv 0)) pa_nil)) rfl)
      (pss_cons (ps_dput hu (pe_fld2 cl_Search no_Search_reason (pv 0)) (pe_callB call_abs (by rfl) mg_abs bt_abs (pa_cons (pv 1) pa_nil)) (pv 2) rfl)
      (pss_one (ps_expr (pe_bm PySem.F.plainAttrs_list PySem.F.slot_list_append PySem.F.type_list_append mt_append (pe_fld2 cl_Search no_Search_trail (pv 0)) (pa_cons (pv 1) pa_nil))))))), ?_⟩
  refine ⟨_, rfl, _, _, _, _, rfl, G.ins, rfl, _, rfl, A.u, _, rfl, DPut.k (k := .inl l) G.hu (by rw [List.length_map]; exact sz_lt (by omega)), ?_⟩
  rw [putK_true hlt]
  have G1 := G.updU (s.tr ++ [l])
  obtain ⟨kv, hv1, hv2, hv3⟩ := G1.hv
  refine ⟨_, rfl, _, _, _, _, rfl, G1.ins, rfl, A.k, _, rfl, .inl G1.hk, ?_⟩
  refine ⟨_, rfl, _, _, _, _, rfl, G1.ins, rfl, _, rfl, l, rfl, A.v, _, rfl, DPut.k (k := .inl (ab l)) hv1 (sz_lt (by have := hv2.len; omega)), ?_⟩
  rw [List.length_map]
  have G2 := G1.updV (kvs := putK kv (.inl (ab l)) (.int s.mks.length)) (fun x => if x = ab l then (s.mks.length : Int) else s.lv x) (hv2.put (i := ab l) (by omega) (by omega) _) fun x hx => by
    rw [valV_put, if_neg fun z => hf x hx (Sum.inl.inj z), if_neg (hf x hx)]
    exact hv3 x hx
  obtain ⟨kr, hr1, hr2, hr3⟩ := G2.hr
  refine ⟨_, rfl, _, rfl, _, _, _, _, rfl, G2.ins, rfl, _, rfl, l, rfl, A.r, _, rfl, DPut.k (k := .inl (ab l)) hr1 (sz_lt (by have h1 := hr2.len; have h2 : s.many.toNat ≤ 30 := (by omega); have h3 : kr.length ≤ s.many.toNat + 1 := h1; omega)), ?_⟩
  have G3 := G2.updR (kvs := putK kr (.inl (ab l)) (oV r)) (fun x => if x = ab l then r else s.rs x) (hr2.put (i := ab l) (by omega) (by show ab l ≤ s.many; omega) _) fun x hx => by
    rw [valV_put, if_neg fun z => hf x hx (Sum.inl.inj z), if_neg (hf x hx)]
    exact hr3 x hx
  refine ⟨_, rfl, _, _, _, _, rfl, G3.ins, rfl, .inl ⟨rfl, _, SqL.of G3.ht⟩, _, rfl, A.t, _, _, rfl, rfl, G3.ht, sz_lt (by rw [List.length_map]; show s.tr.length < 100000; omega), ?_⟩
  have G4 := G3.updT (s.tr ++ [l]) (fun kvs e x hx => ?_) (fun kvs e x hx => ?_)
  · refine k _ ?_
    have e : (s.tr ++ [l]).map V.int = s.tr.map V.int ++ [.int l] := by rw [List.map_append]; rfl
    have G5 := G4
    rw [e] at G5
    exact G5
  · rw [upd_ne G3.fx.n_vr, upd_same] at e
    cases e
    rw [valV_put]
    by_cases q : ab x = ab l
    · rw [if_pos (by rw [q])]
      show _ = some (V.int (if ab x = ab l then _ else _))
      rw [if_pos q]
    · rw [if_neg fun z => q (Sum.inl.inj z)]
      show _ = some (V.int (if ab x = ab l then _ else _))
      rw [if_neg q]
      rcases mem_snoc.mp hx with h | rfl
      · exact hv3 x h
      · exact absurd rfl q
  · rw [upd_same] at e
    cases e
    rw [valV_put]
    by_cases q : ab x = ab l
    · rw [if_pos (by rw [q])]
      show _ = some (oV (if ab x = ab l then _ else _))
      rw [if_pos q]
    · rw [if_neg fun z => q (Sum.inl.inj z)]
      show _ = some (oV (if ab x = ab l then _ else _))
      rw [if_neg q]
      rcases mem_snoc.mp hx with h | rfl
      · exact hr3 x h
      · exact absurd rfl q
theorem sc_Search_look : FnScope ["self", "clause", "one", "left"] ["self", "clause"] (defScope s_Search_look) := ⟨rfl, rfl, rfl, by decide +kernel, rfl, by decide +kernel, by decide +kernel⟩
theorem ok_Search_look (T : Tx K mg) (C_Search_make : CalF P w K mg base ("Search", some "make") 1 ["self", "literal", "clause"] (sp_Search_make K)) : CalF P w K mg base ("Search", some "look") 2 ["self", "clause"] (sp_Search_look K) := by
  have mg_any : mg "any" = none := T.free 56
  have mg_len : mg "len" = none := T.free 62
  obtain ⟨fd_Search_make, b_Search_make, G_Search_make, kp_Search_make⟩ := C_Search_make
  have mt_Search_make : Meth K (He.ga K "Search") "make" (He.ma K (He.ga K "Search") "make") := T.meth 94
  have cl_Search : Cls K (He.ga K "Search") := T.cls 89
  have no_Search_clash : NoAttr K (He.ga K "Search") "clash" := T.noat 105
  have no_Search_sure : NoAttr K (He.ga K "Search") "sure" := T.noat 113
  refine calF T (d := d_Search_look) 16 rfl sc_Search_look rfl rfl (fun _ _ _ _ _ _ us hl => match us, hl with | [_, _], _ => rfl) (len_Search_look K) ?_
  intro cdv A outer s H vs Q E hr h
  have hu := hu_of hr
  obtain ⟨p, H0, A, s, c, rfl, G, I, hcm, k⟩ := h
  have hc := G.cls c hcm
  have hcl := isCl_iff.mp (I.cl c hcm)
  have hlen : c.2.length ≤ 100 := Nat.le_trans (isCl_len I.lo0 (I.cl c hcm)) (by have := I.hi; omega)
  have eS : ∀ S c, leftOf S c = if (c.any fun l => decide (l ∈ S)) = true then none else some (c.filter fun l => decide (-l ∉ S)) := fun _ _ => rfl
  refine ⟨_, (pss_cons (ps_if (pt_val (pe_callB (cr_any2 rfl) (by rfl) mg_any bt_any (pa_cons (pe_lc (own := [("one", 2)]) (g := gName 2) (tt := tYes) rfl sc_Search_look.nd (pi_tupK (K := K) rfl (pv 1)) (blkOk_by (by kernel_rfl)) (fun _ _ _ _ _ => (pg_name (i := 2) sc_Search_look.nd rfl (Or.inl rfl))) (fun _ _ _ _ _ => pts_nil) (fun _ _ _ _ _ => (pe_cmp (pc_din hu (pv 2) (pe_fld2 cl_Search no_Search_sure (pv 0)))))) pa_nil))) (pss_one ps_retN) pss_nil)
      (pss_cons (ps_setLc (i := 3) (own := [("one", 2)]) (g := gName 2) rfl sc_Search_look.nd rfl rfl (sw_true rfl rfl rfl (by decide +kernel)) (pi_tupK (K := K) rfl (pv 1)) (blkOk_by (by kernel_rfl)) (fun _ _ _ _ _ => (pg_name (i := 2) sc_Search_look.nd rfl (Or.inl rfl))) (fun _ _ _ _ _ => (pts_one (pt_cmp (pc_dnotin hu (pe_op op_sub pe_int (pv 2)) (pe_fld2 cl_Search no_Search_sure (pv 0)))))) (fun _ _ _ _ _ => (pv 2)))
      (pss_one (ps_if (pt_cmpR (op_eqE hr.units) (pv 3) (pe_lst pa_nil) (nomark _)) (pss_one (ps_fld2 cl_Search no_Search_clash (pv 0) (pv 1) rfl)) (pss_one (ps_if (pt_cmpR op_eq (pe_callB call_len2 (by rfl) mg_len bt_len (pa_cons (pv 3) pa_nil)) pe_int (nomark _)) (pss_one (ps_expr (pe_meth (pv 0) cl_Search mt_Search_make G_Search_make (hr.mono (by decide)) b_Search_make .nil pass0 (pa_cons (pe_ix ix_list2 (pv 3) pe_int (fun _ _ => rfl)) (pa_cons (pv 1) pa_nil))))) pss_nil)))))), ?_⟩
  refine ⟨_, rfl, c.1, rfl, ⟨_, SqT.of hc⟩, ?_⟩
  refine lcV0 c.2 _ (wkT c.2 V.int) yName (fun l => .bl (decide (l ∈ s.tr))) (by omega) (by intro _; rfl) (fun H h => SqT.of (h _ _ hc)) ?_ ?_
  · intro l hl H1 s1 Qe q
    have G1 := G.grow s1
    refine ⟨_, rfl, _, rfl, _, _, _, _, rfl, G1.ins, rfl, A.u, _, rfl, DGet.k (k := Sum.inl l) G1.hu, ?_⟩
    rw [valV_true]
    exact q _ (Same.refl _)
  · intro D H1 _ s1 h1
    refine ⟨_, _, _, _, rfl, h1, _, rfl, ?_⟩
    have G1 := G.grow s1
    cases e : c.2.any fun l => decide (l ∈ s.tr) with
    | true =>
      refine iteT (k H1 ?_)
      have e2 : lookF s c = s := by
        unfold lookF
        rw [eS, if_pos e]
      rw [e2]; exact G1
    | false =>
      refine iteF ?_
      have hc1 := s1 _ _ hc
      refine ⟨_, rfl, c.1, rfl, ⟨_, SqT.of hc1⟩, ?_⟩
      refine lcV c.2 _ (wkT c.2 V.int) yName (fun l => decide (-l ∉ s.tr)) V.int (by omega) (by intro _; rfl) (fun H h => SqT.of (h _ _ hc1)) ?_ ?_ ?_
      · intro l hl H2 s2 Qb q
        have G2 := G1.grow s2
        refine ⟨_, rfl, _, _, rfl, rfl, _, rfl, _, _, _, _, rfl, G2.ins, rfl, A.u, _, rfl, DGet.k (k := Sum.inl (0 - l)) G2.hu, ?_⟩
        rw [valV_true, Int.zero_sub]
        have q := q _ (Same.refl _)
        by_cases e2 : -l ∈ s.tr
        · rw [decide_eq_false (fun z => z e2)] at q
          rw [decide_eq_true e2]; exact ⟨_, rfl, q⟩
        · rw [decide_eq_true e2] at q
          rw [decide_eq_false e2]; exact ⟨_, rfl, q⟩
      · intro l hl H2 _ s2 Qe q
        exact ⟨_, rfl, q _ (Same.refl _)⟩
      · intro D2 H2 n2 s2 h2
        have G2 := G1.grow s2
        have eL : leftOf s.tr c.2 = some (c.2.filter fun l => decide (-l ∉ s.tr)) := by rw [eS, e]; rfl
        have hwl : lookF s c = match (some (c.2.filter fun l => decide (-l ∉ s.tr)) : Option (List Int)) with
            | none => s
            | some [] => { s with ks := some c }
            | some [l] => makeF s l (some c)
            | some _ => s := by
          unfold lookF
          rw [eL]
          all_goals rfl
        generalize hr : (c.2.filter fun l => decide (-l ∉ s.tr)) = r at eL h2 hwl
        refine ⟨_, rfl, Nat.zero_le _, fun e2 he2 => ?_⟩
        have se := Same.new (o := .lst []) he2
        have G3 := G2.grow se
        refine ⟨D2, e2, _, rfl, rfl, .inl ⟨se _ _ h2, upd_same⟩, dd_ints r, _, rfl, ?_⟩
        match r, eL, h2, hwl with
        | [], eL, h2, hwl =>
          refine iteT ?_
          refine ⟨_, rfl, _, rfl, p, _, _, rfl, G3.ins, by show 13 < 1000; decide, ?_⟩
          refine k _ ?_
          rw [hwl]
          have := G3.updP s.at_ (some c) s.lo s.up
          exact this
        | [l], eL, h2, hwl =>
          refine iteF ?_
          have hd2 := se _ _ h2
          obtain ⟨f1, f2, f3, f4⟩ := leftOf_one eL
          refine ⟨_, rfl, D2, _, rfl, .inl hd2, rfl, _, rfl, iteT ?_⟩
          refine ⟨_, rfl, p, _, _, rfl, G3.ins, rfl, _, rfl, D2, _, 0, .int l, rfl, rfl, hd2, rfl, _, rfl, p, H0, A, s, l, some c, rfl, G3, hcl.1 l f1, I.hi, I.lo0, by have := I.len100; omega, Iv.fresh f2 f3, fun H4 G4 => ?_⟩
          refine k H4 ?_
          rw [hwl]; exact G4
        | x :: y :: r, eL, h2, hwl =>
          refine iteF ?_
          refine ⟨_, rfl, D2, _, rfl, .inl (se _ _ h2), rfl, _, rfl, ?_⟩
          rw [dec_int, decide_eq_false (by simp; omega)]
          refine iteF (k _ ?_)
          rw [hwl]; exact G3
theorem sc_Search_decide : FnScope ["self", "literal"] ["self", "literal"] (defScope s_Search_decide) := ⟨rfl, rfl, rfl, by decide +kernel, rfl, by decide +kernel, by decide +kernel⟩
theorem ok_Search_decide (T : Tx K mg) (C_Search_make : CalF P w K mg base ("Search", some "make") 1 ["self", "literal", "clause"] (sp_Search_make K)) : CalF P w K mg base ("Search", some "decide") 2 ["self", "literal"] (sp_Search_decide K) := by
  have mg_len : mg "len" = none := T.free 62
  obtain ⟨fd_Search_make, b_Search_make, G_Search_make, kp_Search_make⟩ := C_Search_make
  have mt_Search_make : Meth K (He.ga K "Search") "make" (He.ma K (He.ga K "Search") "make") := T.meth 94
  have cl_Search : Cls K (He.ga K "Search") := T.cls 89
  have no_Search_marks : NoAttr K (He.ga K "Search") "marks" := T.noat 111
  have no_Search_trail : NoAttr K (He.ga K "Search") "trail" := T.noat 114
  refine calF T (d := d_Search_decide) 19 rfl sc_Search_decide rfl rfl (fun _ _ _ _ _ _ us hl => match us, hl with | [_, _], _ => rfl) (len_Search_decide K) ?_
  intro cdv A outer s H vs Q E hr h
  have hu := hu_of hr
  obtain ⟨p, H0, A, s, l, rfl, G, I, hl, n1, n2, k⟩ := h
  have h30 := I.len100
  have hmk : s.mks.length ≤ 100 := by
    have h1 := List.Nodup.length_le_of_subset (l₁ := s.mks) (l₂ := List.range s.tr.length) (I.mkp.imp fun h => by omega) fun m hm => List.mem_range.mpr (I.mklt m hm)
    rw [List.length_range] at h1
    omega
  refine ⟨_, (pss_cons (ps_expr (pe_bm PySem.F.plainAttrs_list PySem.F.slot_list_append PySem.F.type_list_append mt_append (pe_fld2 cl_Search no_Search_marks (pv 0)) (pa_cons (pe_callB call_len2 (by rfl) mg_len bt_len (pa_cons (pe_fld2 cl_Search no_Search_trail (pv 0)) pa_nil)) pa_nil)))
      (pss_one (ps_expr (pe_meth (pv 0) cl_Search mt_Search_make G_Search_make (hr.mono (by decide)) b_Search_make .nil pass0 (pa_cons (pv 1) (pa_cons pe_non pa_nil)))))), ?_⟩
  refine ⟨_, rfl, _, _, _, _, rfl, G.ins, rfl, .inl ⟨rfl, _, SqL.of G.hk⟩, _, rfl, _, _, _, _, rfl, G.ins, rfl, A.t, _, rfl, .inl G.ht, A.k, _, _, rfl, rfl, G.hk, sz_lt (by rw [List.length_map]; omega), ?_⟩
  have G1 := G.updK (s.mks ++ [s.tr.length])
  have e : ((s.mks ++ [s.tr.length]).map fun m => V.int (m : Nat)) = (s.mks.map fun m => V.int (m : Nat)) ++ [.int ((s.tr.map V.int).length : Nat)] := by rw [List.map_append, List.length_map]; rfl
  rw [e] at G1
  refine ⟨_, rfl, p, _, _, rfl, G1.ins, rfl, _, rfl, p, H0, A, _, l, none, rfl, G1, hl, I.hi, I.lo0, by show s.tr.length ≤ 100; omega, Iv.fresh n1 n2, fun H2 G2 => k H2 G2⟩
end
end Nt
set_option maxRecDepth 100000
set_option maxHeartbeats 1000000
/-! NtV2: the search: put, choose, back, spread. -/
namespace Nt
open PySem PySem.Spec PyProof.Rows L2
section
variable {K : PySem.W.Frag} {H0 H H' : Hp} {p : Addr} {A : Ad} {s : SS} {S : List Int} {cs : List (List Int)} {don : List Int} {x : Int}
theorem SAt.byOld (h : SAt K H0 H p A s S (cs ++ [don])) (hd : x ∉ don) {v : V} (hv : valV A.kb (.inl x) = some v) : ∃ q xs, v = .ref q ∧ H q = some (.lst xs) ∧ xs.length ≤ cs.length + 1 ∧
    ∀ H', Same H H' → SAt K H0 (upd H' q (.lst (xs ++ [.int cs.length]))) p A s S (cs ++ [don ++ [x]]) := by
  obtain ⟨q, xs, e, hq, hl, hqe, hq0, hB⟩ := h.by_.old hd hv
  refine ⟨q, xs, e, hq, hl, fun H' g => ?_⟩
  have G := h.grow g
  obtain ⟨kv, hv1, hv2, hv3⟩ := G.hv
  obtain ⟨kr, hr1, hr2, hr3⟩ := G.hr
  have hq' := g _ _ hq
  simp only [List.mem_cons, List.not_mem_nil, or_false, not_or] at hqe
  exact ⟨h.fx, Same.mut G.same hq0, G.cls.upd hq' (by intro xs z; cases z), (upd_ne (ne_of G.ins hq' (by intro z; cases z))).trans G.ins, (upd_ne fun z => hqe.1 z.symm).trans G.ha, hB H' g, (upd_ne (ne_of G.hu hq' (by intro z; cases z))).trans G.hu, ⟨kv, (upd_ne (ne_of hv1 hq' (by intro z; cases z))).trans hv1, hv2, hv3⟩, ⟨kr, (upd_ne (ne_of hr1 hq' (by intro z; cases z))).trans hr1, hr2, hr3⟩,
    (upd_ne fun z => hqe.2.1 z.symm).trans G.ht, (upd_ne fun z => hqe.2.2.1 z.symm).trans G.hk, (upd_ne fun z => hqe.2.2.2 z.symm).trans G.he⟩
theorem SAt.byNew (h : SAt K H0 H p A s S (cs ++ [don])) (hd : x ∉ don) (hn : valV A.kb (.inl x) = none) {d : Addr} (h0 : H d = none) (g : Same H H') :
    SAt K H0 (upd (upd H' A.b (.dK (putK A.kb (.inl x) (.ref d)))) d (.lst [.int cs.length])) p { A with kb := putK A.kb (.inl x) (.ref d) } s S (cs ++ [don ++ [x]]) := by
  have G := h.grow g
  have f := h.fx
  have hb := G.by_.at_
  obtain ⟨kv, hv1, hv2, hv3⟩ := h.hv
  obtain ⟨kr, hr1, hr2, hr3⟩ := h.hr
  have hd0 : H0 d = none := h.same.free h0
  have nd : ∀ {y o}, H y = some o → y ≠ d := fun e => ne_of_none e h0
  have k2 : ∀ {y o}, H y = some o → y ≠ A.b → upd (upd H' A.b (.dK (putK A.kb (.inl x) (.ref d)))) d (.lst [.int cs.length]) y = some o := fun e n => by
    rw [upd_ne (nd e), upd_ne n]; exact g _ _ e
  have hdx : d ∉ [A.a, A.t, A.k, A.e] := by
    simp only [List.mem_cons, List.not_mem_nil, or_false, not_or]
    exact ⟨(nd h.ha).symm, (nd h.ht).symm, (nd h.hk).symm, (nd h.he).symm⟩
  exact ⟨⟨f.fp, f.fa, f.fb, f.fu, f.fv, f.fr, f.ft, f.fk, f.fe, f.n_at, f.n_ak, f.n_ae, f.n_tk, f.n_te, f.n_ke, f.n_bu, f.n_bv, f.n_br, f.n_uv, f.n_ur, f.n_vr⟩, Same.mut (Same.mut G.same f.fb) hd0,
    fun y hy => k2 (h.cls y hy) (ne_of (h.cls y hy) h.by_.at_ (by intro z; cases z)), k2 h.ins (ne_of h.ins h.by_.at_ (by intro z; cases z)), k2 h.ha (ne_of h.ha h.by_.at_ (by intro z; cases z)), h.by_.new hd hn h0 hd0 hdx g, k2 h.hu f.n_bu.symm, ⟨kv, k2 hv1 f.n_bv.symm, hv2, hv3⟩, ⟨kr, k2 hr1 f.n_br.symm, hr2, hr3⟩,
    k2 h.ht (ne_of h.ht h.by_.at_ (by intro z; cases z)), k2 h.hk (ne_of h.hk h.by_.at_ (by intro z; cases z)), k2 h.he (ne_of h.he h.by_.at_ (by intro z; cases z))⟩
theorem SAt.openB (h : SAt K H0 H p A s S cs) : SAt K H0 H p A s S (cs ++ [[]]) := ⟨h.fx, h.same, h.cls, h.ins, h.ha, h.by_.open_, h.hu, h.hv, h.hr, h.ht, h.hk, h.he⟩
end
theorem cut_drop (xs : List V) (m : Nat) : cutV xs (some (m : Int)) none = xs.drop m := by
  unfold cutV
  rw [HT.sIx_nat, HT.sIx_none]
  rcases Nat.le_total m xs.length with h | h
  · rw [Nat.min_eq_left h, List.take_of_length_le (by rw [List.length_drop]; exact Nat.le_refl _)]
  · rw [Nat.min_eq_right h, List.drop_eq_nil_of_le (Nat.le_refl _), List.drop_eq_nil_of_le h]; simp
theorem cut_take (xs : List V) (m : Nat) : cutV xs none (some (m : Int)) = xs.take m := by
  unfold cutV
  rw [HT.sIx_nat, HT.sIx_none, List.drop_zero, Nat.sub_zero]
  rcases Nat.le_total m xs.length with h | h
  · rw [Nat.min_eq_left h]
  · rw [Nat.min_eq_right h, List.take_of_length_le (Nat.le_refl _), List.take_of_length_le h]
theorem dropK_true (S : List Int) (x : Int) : dropK (S.map fun l => ((Sum.inl l : Key), V.bl true)) (.inl x) = (S.filter fun l => decide (l ≠ x)).map fun l => ((Sum.inl l : Key), V.bl true) := by
  unfold dropK
  rw [List.filter_map]
  congr 1
  refine List.filter_congr fun l _ => ?_
  show decide ((Sum.inl l : Key) ≠ Sum.inl x) = decide (l ≠ x)
  simp
theorem atI_nat {α : Type} {xs : List α} {j : Nat} {x : α} (h : xs[j]? = some x) : atI xs (j : Int) = some x := by
  have hlt := (List.getElem?_eq_some_iff.mp h).1
  unfold atI
  have e : ixN xs.length (j : Int) = some j := by
    unfold ixN
    rw [if_pos (by omega), if_pos (by omega), Int.toNat_natCast]
  rw [e]
  exact h
def sp_Search_put (K : PySem.W.Frag) : Sp := fun vs H Q _ => ∃ (p : Addr) (H0 : Hp) (A : Ad) (s : SS) (c : Cl), vs = [.ref p, rf c] ∧ SAt1 K H0 H p A s ∧ Iv { s with cl := s.cl ++ [c] } ∧ H c.1 = some (.tup (c.2.map V.int)) ∧ s.cl.length < 100000 ∧
  ∀ H' A', SAt1 K H0 H' p A' (putS s c) → Q .non H'
theorem len_Search_put (K : PySem.W.Frag) : ∀ vs H Q E, sp_Search_put K vs H Q E → vs.length = 2 := by
  rintro vs H Q E ⟨p, H0, A, s, c, rfl, _⟩; rfl
/-- a number that is not told yet -/
def Opn (s : SS) (n : Int) : Prop := 1 ≤ n ∧ n ≤ s.many ∧ n ∉ s.tr ∧ -n ∉ s.tr
def sp_Search_choose (K : PySem.W.Frag) : Sp := fun vs H Q _ => ∃ (p : Addr) (H0 : Hp) (A : Ad) (s : SS) (n : Int), vs = [.ref p] ∧ SAt1 K H0 H p A s ∧ Iv s ∧ Opn s n ∧
  ∀ H' n, Opn s n → (∀ i, 1 ≤ i → i < n → i ∈ s.tr ∨ -i ∈ s.tr) → SAt1 K H0 H' p A (decideF { s with lo := n } (if s.up = true then n else -n)) → Q .non H'
theorem len_Search_choose (K : PySem.W.Frag) : ∀ vs H Q E, sp_Search_choose K vs H Q E → vs.length = 1 := by
  rintro vs H Q E ⟨p, H0, A, s, n, rfl, _⟩; rfl
def sp_Search_back_to (K : PySem.W.Frag) : Sp := fun vs H Q _ => ∃ (p : Addr) (H0 : Hp) (A : Ad) (s : SS) (j m : Nat), vs = [.ref p, .int (j : Nat)] ∧ SAt1 K H0 H p A s ∧ Iv s ∧ s.mks[j]? = some m ∧
  ∀ H' A', SAt1 K H0 H' p A' (backF s j m) → Q .non H'
theorem len_Search_back_to (K : PySem.W.Frag) : ∀ vs H Q E, sp_Search_back_to K vs H Q E → vs.length = 2 := by
  rintro vs H Q E ⟨p, H0, A, s, j, m, rfl, _⟩; rfl
/-- behind a spread -/
structure SpreadOk (s s' : SS) : Prop where
  iv : Iv s'
  ext : Ext s s'
  pn : Pn s' []
  at_ : s'.ks = none → s'.at_ = s'.tr.length
def sp_Search_spread (K : PySem.W.Frag) : Sp := fun vs H Q _ => ∃ (p : Addr) (H0 : Hp) (A : Ad) (s : SS), vs = [.ref p] ∧ SAt1 K H0 H p A s ∧ Iv s ∧ Pn s [] ∧ s.cl.length ≤ 100000 ∧
  ∀ H' s', SAt1 K H0 H' p A s' → SpreadOk s s' → Q .non H'
theorem len_Search_spread (K : PySem.W.Frag) : ∀ vs H Q E, sp_Search_spread K vs H Q E → vs.length = 1 := by
  rintro vs H Q E ⟨p, H0, A, s, rfl, _⟩; rfl
section
variable {P : Program} {w : World} {K : PySem.W.Frag} {mg : Str → Option Value} {base : Heap}
theorem sc_Search_put : FnScope ["self", "clause", "place", "one"] ["self", "clause"] (defScope s_Search_put) := ⟨rfl, rfl, rfl, by decide +kernel, rfl, by decide +kernel, by decide +kernel⟩
theorem ok_Search_put (T : Tx K mg) (C_Search_look : CalF P w K mg base ("Search", some "look") 2 ["self", "clause"] (sp_Search_look K)) : CalF P w K mg base ("Search", some "put") 3 ["self", "clause"] (sp_Search_put K) := by
  have mg_len : mg "len" = none := T.free 62
  obtain ⟨fd_Search_look, b_Search_look, G_Search_look, kp_Search_look⟩ := C_Search_look
  have mt_Search_look : Meth K (He.ga K "Search") "look" (He.ma K (He.ga K "Search") "look") := T.meth 93
  have cl_Search : Cls K (He.ga K "Search") := T.cls 89
  have no_Search_clauses : NoAttr K (He.ga K "Search") "clauses" := T.noat 106
  have no_Search_by : NoAttr K (He.ga K "Search") "by" := T.noat 104
  refine calF T (d := d_Search_put) 15 rfl sc_Search_put rfl rfl (fun _ _ _ _ _ _ us hl => match us, hl with | [_, _], _ => rfl) (len_Search_put K) ?_
  intro cdv A outer s H vs Q E hr h
  have hu := hu_of hr
  obtain ⟨p, H0, A, s, c, rfl, G, I, hc, hl, k⟩ := h
  refine ⟨_, (pss_cons (ps_set (i := 2) sc_Search_put.nd rfl (Or.inl rfl) (pe_callB call_len2 (by rfl) mg_len bt_len (pa_cons (pe_fld2 cl_Search no_Search_clauses (pv 0)) pa_nil)))
      (pss_cons (ps_expr (pe_bm PySem.F.plainAttrs_list PySem.F.slot_list_append PySem.F.type_list_append mt_append (pe_fld2 cl_Search no_Search_clauses (pv 0)) (pa_cons (pv 1) pa_nil)))
      (pss_cons (ps_for PassesOwn.never rfl (pi_tupK (K := K) rfl (pv 1)) (pg_name (i := 3) sc_Search_put.nd rfl (Or.inl rfl)) (pss_one (ps_expr (pe_bm PySem.F.plainAttrs_list PySem.F.slot_list_append PySem.F.type_list_append mt_append (pe_dsetd (pe_fld2 cl_Search no_Search_by (pv 0)) (pv 3) (pe_lst pa_nil) ⟨rfl, rfl, rfl, rfl⟩) (pa_cons (pv 2) pa_nil)))))
      (pss_one (ps_expr (pe_meth (pv 0) cl_Search mt_Search_look G_Search_look (hr.mono (by decide)) b_Search_look .nil pass0 (pa_cons (pv 1) pa_nil))))))), ?_⟩
  refine ⟨_, rfl, _, _, _, _, rfl, G.ins, rfl, A.a, _, rfl, .inl G.ha, ?_⟩
  refine ⟨_, rfl, _, _, _, _, rfl, G.ins, rfl, .inl ⟨rfl, _, SqL.of G.ha⟩, _, rfl, A.a, _, _, rfl, rfl, G.ha, by rw [List.length_map]; exact sz_lt hl, ?_⟩
  have hcl := I.cl c (by simp)
  have hnd := pw_nodup (isCl_iff.mp hcl).2
  have hm30 : s.many ≤ 30 := I.hi
  have hm0 : 0 ≤ s.many := I.lo0
  have hlc : c.2.length ≤ 61 := Nat.le_trans (isCl_len I.lo0 hcl) (by show 2 * s.many.toNat + 1 ≤ 61; omega)
  have G1 := (G.updA hc).openB
  have e0 : (s.cl ++ [c]).map rf = s.cl.map rf ++ [rf c] := by rw [List.map_append]; rfl
  rw [e0] at G1
  refine ⟨_, rfl, c.1, rfl, ⟨_, SqT.of (G1.cls c (by simp))⟩, ?_⟩
  refine forA c.2 (fun σ l => σ.set 3 (some (.int l))) (wkT c.2 V.int) (fun σ => yName) (fun don σ H2 => ∃ kb x, σ = [some (.ref p), some (rf c), some (.int s.cl.length), x] ∧ SAt K H0 H2 p { A with kb := kb } { s with cl := s.cl ++ [c] } s.tr (s.cl.map (·.2) ++ [don])) ?_ ?_ ?_ ?_
  · exact ⟨A.kb, none, by rw [List.length_map]; rfl, G1⟩
  · rintro l σ H2 ⟨_, _, _, G2⟩
    exact SqT.of (G2.cls c (by simp))
  · rintro l x r σ H2 H3 e ⟨kb, y, rfl, G2⟩ s3
    have hx : x ∉ l := by
      rw [e, List.nodup_append] at hnd
      exact fun z => hnd.2.2 x z x (by simp) rfl
    have hbl : kb.length < sizeLine := by
      have h1 := G2.by_.len
      have h2 : ((s.cl.map (·.2) ++ [l]).map List.length).sum ≤ 61 * (s.cl.map (·.2) ++ [l]).length := sum_len fun z hz => by
        rcases List.mem_append.mp hz with hz | hz
        · obtain ⟨w, hw, rfl⟩ := List.mem_map.mp hz
          exact Nat.le_trans (isCl_len I.lo0 (I.cl w (List.mem_append_left _ hw))) (by show 2 * s.many.toNat + 1 ≤ 61; omega)
        · rw [List.mem_singleton.mp hz]
          rw [e, List.length_append] at hlc; omega
      simp only [List.length_append, List.length_map, List.length_cons, List.length_nil] at h2
      have : sizeLine = 16777216 := rfl
      have h1 : kb.length ≤ ((s.cl.map (·.2) ++ [l]).map List.length).sum := h1
      omega
    have G3 := G2.grow s3
    refine ⟨_, rfl, _, _, _, _, rfl, G3.ins, rfl, A.b, rfl, .inl ⟨_, .inl G3.by_.at_⟩, _, rfl, Nat.zero_le _, fun d hd => ?_⟩
    have s3d : Same H2 (upd H3 d (.lst [])) := s3.trans (Same.new hd)
    refine ⟨kb, .inl x, (G2.grow s3d).by_.at_, rfl, hbl, fun v hv => ?_, fun hn => ?_⟩
    · obtain ⟨q, xs, rfl, hq, hql, hG⟩ := G2.byOld hx hv
      refine ⟨.inl ⟨rfl, _, SqL.of (s3d _ _ hq)⟩, _, rfl, q, _, _, rfl, rfl, s3d _ _ hq, (by rw [List.length_map] at hql; have : sizeLine = 16777216 := rfl; omega), ?_⟩
      have G4 := hG _ s3d
      rw [List.length_map] at G4
      exact ⟨kb, _, rfl, G4⟩
    · have hd2 : H2 d = none := s3.free hd
      have hdb : d ≠ A.b := (ne_of_none G2.by_.at_ hd2).symm
      have h1 : upd (upd H3 d (.lst [])) A.b (.dK (putK kb (.inl x) (.ref d))) d = some (.lst []) := by rw [upd_ne hdb, upd_same]
      refine ⟨.inl ⟨rfl, _, SqL.of h1⟩, _, rfl, d, _, _, rfl, rfl, h1, by decide, ?_⟩
      have G4 := G2.byNew hx hn hd2 s3d
      rw [List.length_map] at G4
      exact ⟨putK kb (.inl x) (.ref d), _, rfl, G4⟩
  · rintro σ H2 ⟨kb, y, rfl, G2⟩
    have G3 : SAt1 K H0 H2 p { A with kb := kb } { s with cl := s.cl ++ [c] } := by
      have e : (s.cl ++ [c]).map (·.2) = s.cl.map (·.2) ++ [c.2] := by rw [List.map_append]; rfl
      show SAt K H0 H2 p _ _ s.tr ((s.cl ++ [c]).map (·.2))
      rw [e]; exact G2
    exact ⟨_, rfl, p, _, _, rfl, G3.ins, rfl, _, rfl, p, H0, _, _, c, rfl, G3, I, by simp, fun H3 G4 => k H3 _ G4⟩
theorem sc_Search_choose : FnScope ["self"] ["self"] (defScope s_Search_choose) := ⟨rfl, rfl, rfl, by decide +kernel, rfl, by decide +kernel, by decide +kernel⟩
theorem ok_Search_choose (T : Tx K mg) (C_Search_decide : CalF P w K mg base ("Search", some "decide") 2 ["self", "literal"] (sp_Search_decide K)) : CalF P w K mg base ("Search", some "choose") 3 ["self"] (sp_Search_choose K) := by
  obtain ⟨fd_Search_decide, b_Search_decide, G_Search_decide, kp_Search_decide⟩ := C_Search_decide
  have mt_Search_decide : Meth K (He.ga K "Search") "decide" (He.ma K (He.ga K "Search") "decide") := T.meth 96
  have cl_Search : Cls K (He.ga K "Search") := T.cls 89
  have no_Search_low : NoAttr K (He.ga K "Search") "low" := T.noat 109
  have no_Search_sure : NoAttr K (He.ga K "Search") "sure" := T.noat 113
  have no_Search_up : NoAttr K (He.ga K "Search") "up" := T.noat 115
  refine calF T (d := d_Search_choose) 20 rfl sc_Search_choose rfl rfl (fun _ _ _ _ _ _ us hl => match us, hl with | [_], _ => rfl) (len_Search_choose K) ?_
  intro cdv A outer s H vs Q E hr h
  have hu := hu_of hr
  obtain ⟨p, H0, A, s, n, rfl, G, I, ⟨o1, o2, o3, o4⟩, k⟩ := h
  refine ⟨_, (pss_cons (ps_while PassesOwn.never (PW.pt (pw_or (pt_cmp (pc_din hu (pe_fld2 cl_Search no_Search_low (pv 0)) (pe_fld2 cl_Search no_Search_sure (pv 0)))) (pw_or1 (pt_cmp (pc_din hu (pe_op op_sub pe_int (pe_fld2 cl_Search no_Search_low (pv 0))) (pe_fld2 cl_Search no_Search_sure (pv 0))))))) (pss_one (ps_fldaug2 cl_Search no_Search_low (pv 0) pe_int in_add)))
      (pss_one (ps_expr (pe_meth (pv 0) cl_Search mt_Search_decide G_Search_decide (hr.mono (by decide)) b_Search_decide .nil pass0 (pa_cons (pe_ifExp (pt_val (pe_fld2 cl_Search no_Search_up (pv 0))) (pe_fld2 cl_Search no_Search_low (pv 0)) (pe_op op_sub pe_int (pe_fld2 cl_Search no_Search_low (pv 0)))) pa_nil))))), ?_⟩
  refine ⟨fun m σ H2 => ∃ lo, σ = [some (.ref p)] ∧ SAt1 K H0 H2 p A { s with lo := lo } ∧ 1 ≤ lo ∧ lo ≤ n ∧ (∀ i, 1 ≤ i → i < lo → i ∈ s.tr ∨ -i ∈ s.tr) ∧ m = (n - lo).toNat, ⟨_, s.lo, rfl, G, I.low1, ?_, I.low, rfl⟩, ?_⟩
  · rcases Int.lt_or_le n s.lo with h | h
    · rcases I.low n o1 h with h | h
      · exact absurd h o3
      · exact absurd h o4
    · exact h
  rintro m σ H2 ⟨lo, rfl, G2, l1, l2, l3, rfl⟩
  refine ⟨_, rfl, _, _, _, _, rfl, G2.ins, rfl, _, rfl, _, _, _, _, rfl, G2.ins, rfl, A.u, _, rfl, DGet.k (k := .inl lo) G2.hu, _, rfl, ?_⟩
  rw [valV_true]
  have step : (lo ∈ s.tr ∨ -lo ∈ s.tr) → ∃ m', m' < (n - lo).toNat ∧ ∃ lo', [some (V.ref p)] = [some (V.ref p)] ∧ SAt1 K H0 (upd H2 p (.ins (He.ga K "Search") A.dx (putF "low" (.int (lo + 1)) (fsOf A { s with lo := lo })))) p A { s with lo := lo' } ∧ 1 ≤ lo' ∧ lo' ≤ n ∧ (∀ i, 1 ≤ i → i < lo' → i ∈ s.tr ∨ -i ∈ s.tr) ∧ m' = (n - lo').toNat := by
    intro h
    have hne : lo ≠ n := fun e => by
      rw [e] at h
      rcases h with h | h
      · exact o3 h
      · exact o4 h
    refine ⟨_, ?_, lo + 1, rfl, ?_, by omega, by omega, fun i h1 h2 => ?_, rfl⟩
    · omega
    · rw [put_low]
      have := G2.updP s.at_ s.ks (lo + 1) s.up
      exact this
    · by_cases e : i = lo
      · rw [e]; exact h
      · exact l3 i h1 (by omega)
  by_cases h1 : lo ∈ s.tr
  · rw [decide_eq_true h1]
    refine iteT (iteT ⟨_, fun _ _ h => h, ?_⟩)
    exact ⟨_, rfl, p, _, _, _, rfl, G2.ins, rfl, _, _, rfl, rfl, _, _, G2.ins, by show 13 < 1000; decide, step (.inl h1)⟩
  · rw [decide_eq_false h1]
    refine iteF ?_
    refine ⟨_, rfl, _, _, _, _, rfl, G2.ins, rfl, _, _, rfl, rfl, _, rfl, _, _, _, _, rfl, G2.ins, rfl, A.u, _, rfl, DGet.k (k := .inl (0 - lo)) G2.hu, _, rfl, ?_⟩
    rw [valV_true, Int.zero_sub]
    by_cases h2 : -lo ∈ s.tr
    · rw [decide_eq_true h2]
      refine iteT ⟨_, fun _ _ h => h, ?_⟩
      exact ⟨_, rfl, p, _, _, _, rfl, G2.ins, rfl, _, _, rfl, rfl, _, _, G2.ins, by show 13 < 1000; decide, step (.inr h2)⟩
    · rw [decide_eq_false h2]
      refine iteF ?_
      have I2 : Iv { s with lo := lo } := ⟨I.lo0, I.hi, I.cl, I.inr, I.nd, I.mkp, I.mklt, I.lev, I.rsn, I.rin, I.quiet, I.ks, I.at_, I.atm, l1, l3⟩
      have hin : InR s.many lo := by unfold InR; omega
      have op : Opn s lo := ⟨l1, by omega, h1, h2⟩
      refine ⟨_, rfl, p, _, _, rfl, G2.ins, rfl, _, rfl, _, _, _, _, rfl, G2.ins, rfl, _, rfl, ?_⟩
      cases hup : s.up with
      | true =>
        refine iteT ⟨_, rfl, _, _, _, _, rfl, G2.ins, rfl, p, H0, A, _, lo, rfl, G2, I2, hin, h1, h2, fun H3 G3 => ?_⟩
        refine k H3 lo op l3 ?_
        have e : (if s.up = true then lo else -lo) = lo := by rw [hup]; rfl
        rw [e]; exact G3
      | false =>
        refine iteF ⟨_, rfl, _, _, _, _, rfl, G2.ins, rfl, _, _, rfl, rfl, p, H0, A, _, -lo, by show [V.ref p, V.int (0 - lo)] = _; rw [Int.zero_sub], G2, I2, hin.neg, h2, by rw [Int.neg_neg]; exact h1, fun H3 G3 => ?_⟩
        refine k H3 lo op l3 ?_
        have e : (if s.up = true then lo else -lo) = -lo := by rw [hup]; rfl
        rw [e]; exact G3
end
end Nt
set_option maxRecDepth 100000
set_option maxHeartbeats 1000000
/-! NtQ3: the search, by plain lists: what a turn of solve brings; where it ends. -/
namespace Nt
open PySem PySem.Spec PyProof.Rows L2
/-! ### the weight -/
def wg (n : Nat) (mks : List Nat) : Nat → Nat
  | 0 => 0
  | k + 1 => wg n mks k + if k ∈ mks then 0 else 2 ^ (n - 1 - k)
theorem wg_mono (n : Nat) (mks : List Nat) {k : Nat} : ∀ {j : Nat}, k ≤ j → wg n mks k ≤ wg n mks j
  | 0, h => by
    have : k = 0 := by omega
    rw [this]; exact Nat.le_refl _
  | j + 1, h => by
    rcases Nat.lt_or_eq_of_le h with h | h
    · exact Nat.le_trans (wg_mono n mks (Nat.le_of_lt_succ h)) (Nat.le_add_right _ _)
    · rw [h]; exact Nat.le_refl _
theorem wg_gap (n : Nat) (mks : List Nat) {j : Nat} : ∀ {k : Nat}, j ≤ k → k ≤ n → wg n mks k + 2 ^ (n - k) ≤ wg n mks j + 2 ^ (n - j)
  | 0, h, _ => by
    have : j = 0 := by omega
    rw [this]; exact Nat.le_refl _
  | k + 1, h, hk => by
    rcases Nat.lt_or_eq_of_le h with h | h
    · have ih := wg_gap n mks (Nat.le_of_lt_succ h) (by omega)
      have e : 2 ^ (n - k) = 2 ^ (n - (k + 1)) + 2 ^ (n - (k + 1)) := by
        rw [show n - k = (n - (k + 1)) + 1 by omega, Nat.pow_succ]; omega
      have e2 : n - 1 - k = n - (k + 1) := by omega
      have e3 : wg n mks (k + 1) ≤ wg n mks k + 2 ^ (n - (k + 1)) := by
        show wg n mks k + (if k ∈ mks then 0 else 2 ^ (n - 1 - k)) ≤ _
        rw [e2]
        split
        · exact Nat.add_le_add_left (Nat.zero_le _) _
        · exact Nat.le_refl _
      rw [e] at ih
      generalize 2 ^ (n - (k + 1)) = X at *
      omega
    · rw [h]; exact Nat.le_refl _
theorem wg_le (n : Nat) (mks : List Nat) {k : Nat} (h : k ≤ n) : wg n mks k + 1 ≤ 2 ^ n := by
  have h1 := wg_gap n mks (Nat.zero_le k) h
  have h2 : 1 ≤ 2 ^ (n - k) := Nat.one_le_two_pow
  have h3 : wg n mks 0 = 0 := rfl
  rw [h3, Nat.sub_zero] at h1
  omega
theorem wg_congr (n : Nat) {mks mks' : List Nat} : ∀ {k : Nat}, (∀ i, i < k → (i ∈ mks ↔ i ∈ mks')) → wg n mks k = wg n mks' k
  | 0, _ => rfl
  | k + 1, h => by
    show wg n mks k + _ = wg n mks' k + _
    rw [wg_congr n fun i hi => h i (Nat.lt_succ_of_lt hi)]
    have := h k (Nat.lt_succ_self k)
    by_cases e : k ∈ mks
    · rw [if_pos e, if_pos (this.mp e)]
    · rw [if_neg e, if_neg fun z => e (this.mpr z)]
def VW (s : SS) : Nat := wg s.many.toNat s.mks s.tr.length
theorem VW_lt {s : SS} (I : Iv s) : VW s + 1 ≤ 2 ^ s.many.toNat := wg_le _ _ I.len
theorem VW_ext {s s' : SS} (h : Ext s s') : VW s ≤ VW s' := by
  obtain ⟨y, hy⟩ := h.tr
  unfold VW
  rw [h.many, h.mks]
  exact wg_mono _ _ (by rw [hy, List.length_append]; omega)
theorem VW_decide {s : SS} (I : Iv s) (l : Int) : VW (decideF s l) = VW s := by
  show wg s.many.toNat (s.mks ++ [s.tr.length]) (s.tr ++ [l]).length = wg s.many.toNat s.mks s.tr.length
  rw [List.length_append]
  show wg s.many.toNat (s.mks ++ [s.tr.length]) s.tr.length + _ = _
  rw [if_pos (by simp), Nat.add_zero]
  refine wg_congr _ fun i hi => ?_
  rw [List.mem_append]
  exact ⟨fun h => h.resolve_right fun z => by rw [List.mem_singleton.mp z] at hi; omega, .inl⟩
/-! ### a turn that mends -/
theorem only_one {xs : List Int} {u : Int} (h : xs.Nodup) (hu : u ∈ xs) (ho : ∀ y ∈ xs, y = u) : xs = [u] := by
  match xs, h, hu with
  | [x], _, hu => rw [List.mem_singleton.mp hu]
  | a :: b :: r, h, _ =>
    have h1 := ho a (by simp)
    have h2 := ho b (by simp)
    rw [h1, h2] at h
    simp at h
def mendF (s : SS) (c : Cl) (j m : Nat) : SS := putS (backF { s with ln := s.ln ++ [c] } j m) c
structure MendOk (s s' : SS) (c : Cl) : Prop where
  iv : Iv s'
  pn : Pn s' []
  many : s'.many = s.many
  cl : s'.cl = s.cl ++ [c]
  ln : s'.ln = s.ln ++ [c]
  up : s'.up = s.up
  vw : VW s + 1 ≤ VW s'
  rup : Rup (s.cl.map (·.2)) c.2
theorem mend_pre {s : SS} (I : Iv s) {c : Cl} {j m : Nat} (L : LearnOk s c.2 j m) : Iv { backF { s with ln := s.ln ++ [c] } j m with cl := s.cl ++ [c] } ∧ Iv (backF { s with ln := s.ln ++ [c] } j m) := by
  have I1 : Iv { s with ln := s.ln ++ [c] } := ⟨I.lo0, I.hi, I.cl, I.inr, I.nd, I.mkp, I.mklt, I.lev, I.rsn, I.rin, I.quiet, I.ks, I.at_, I.atm, I.low1, I.low⟩
  obtain ⟨b1, b2, b3⟩ := back_ok I1 L.at_
  refine ⟨add_iv b1 L.cl fun x hx => ?_, b1⟩
  have hx : x ∈ s.mks.take j := hx
  obtain ⟨i, hi, hi2⟩ := mem_take_ix.mp hx
  have h1 := L.quiet i x hi hi2
  have hxm : x < m := pw_lt I.mkp hi2 L.at_ hi
  show Quiet ((s.tr.take m).take x) c.2
  rw [List.take_take, Nat.min_eq_left (Nat.le_of_lt hxm)]
  exact h1
theorem mend_ok {s : SS} (I : Iv s) {c : Cl} {j m : Nat} (L : LearnOk s c.2 j m) : MendOk s (mendF s c j m) c := by
  have I1 : Iv { s with ln := s.ln ++ [c] } := ⟨I.lo0, I.hi, I.cl, I.inr, I.nd, I.mkp, I.mklt, I.lev, I.rsn, I.rin, I.quiet, I.ks, I.at_, I.atm, I.low1, I.low⟩
  obtain ⟨b1, b2, b3⟩ := back_ok I1 L.at_
  have hq : ∀ x ∈ (backF { s with ln := s.ln ++ [c] } j m).mks, Quiet ((backF { s with ln := s.ln ++ [c] } j m).tr.take x) c.2 := fun x hx => by
    have hx : x ∈ s.mks.take j := hx
    obtain ⟨i, hi, hi2⟩ := mem_take_ix.mp hx
    have h1 := L.quiet i x hi hi2
    have hxm : x < m := pw_lt I.mkp hi2 L.at_ hi
    show Quiet ((s.tr.take m).take x) c.2
    rw [List.take_take, Nat.min_eq_left (Nat.le_of_lt hxm)]
    exact h1
  have hpn : Pn (backF { s with ln := s.ln ++ [c] } j m) [] := fun _ c' hc' => .inr (.inl (b2 c' hc'))
  obtain ⟨p1, p2, p3, p4, p5⟩ := put_ok b1 L.cl hq
  have hm : m ∈ s.mks := List.mem_of_getElem? L.at_
  have hml := I.mklt m hm
  obtain ⟨u, hu, u1, u2, u3⟩ := L.open_
  have hcl := isCl_iff.mp L.cl
  have cons : ∀ x, x ∈ s.tr.take m → -x ∉ s.tr.take m := fun x hx h => I.cons (List.mem_of_mem_take hx) (List.mem_of_mem_take h)
  have eL : leftOf (s.tr.take m) c.2 = some [u] := by
    unfold leftOf
    have e1 : (c.2.any fun l => decide (l ∈ s.tr.take m)) = false := by
      rw [List.any_eq_false]
      intro y hy
      simp only [decide_eq_true_eq]
      intro h
      by_cases e : y = u
      · exact u1 (e ▸ h)
      · exact cons y h (u3 y hy e)
    rw [e1]
    refine congrArg some (only_one ((pw_nodup hcl.2).filter _) (List.mem_filter.mpr ⟨hu, decide_eq_true u2⟩) fun y hy => ?_)
    rw [List.mem_filter] at hy
    by_cases e : y = u
    · exact e
    · exact absurd (u3 y hy.1 e) (of_decide_eq_true hy.2)
  have etr : (mendF s c j m).tr = s.tr.take m ++ [u] := by
    show (lookF _ c).tr = _
    unfold lookF
    show (match leftOf (s.tr.take m) c.2 with
      | none => _
      | some [] => _
      | some [l] => _
      | some _ => _ : SS).tr = _
    rw [eL]
    rfl
  have emk : (mendF s c j m).mks = s.mks.take j := p2.mks
  refine ⟨p1, p4 _ hpn, p2.many, p2.cl, p2.ln, p2.up, ?_, L.rup⟩
  have emany : (mendF s c j m).many = s.many := p2.many
  unfold VW
  rw [etr, emk, emany, List.length_append, List.length_take, Nat.min_eq_left (Nat.le_of_lt hml)]
  show _ ≤ wg s.many.toNat (s.mks.take j) m + _
  have hnm : m ∉ s.mks.take j := fun h => Nat.lt_irrefl _ (mk_take I.mkp L.at_ m h)
  rw [if_neg hnm]
  have hl := I.len
  have h1 := wg_gap s.many.toNat s.mks (j := m + 1) (k := s.tr.length) hml hl
  have h2 : wg s.many.toNat s.mks (m + 1) = wg s.many.toNat s.mks m := by
    show wg s.many.toNat s.mks m + _ = _
    rw [if_pos hm, Nat.add_zero]
  have h3 : wg s.many.toNat s.mks m = wg s.many.toNat (s.mks.take j) m := wg_congr _ fun i hi => by
    constructor
    · intro h
      rw [← List.take_append_drop j s.mks] at h
      rcases List.mem_append.mp h with h | h
      · exact h
      · have := mk_drop I.mkp L.at_ i h
        omega
    · exact List.mem_of_mem_take
  have h4 : 1 ≤ 2 ^ (s.many.toNat - s.tr.length) := Nat.one_le_two_pow
  have h5 : s.many.toNat - 1 - m = s.many.toNat - (m + 1) := by omega
  rw [h5]
  omega
/-! ### solve -/
theorem Steps.snoc {cs : Cls'} : ∀ {xs : List (List Int)} {c : List Int}, Steps cs xs → Rup (cs ++ xs) c → Steps cs (xs ++ [c])
  | [], c, _, h => ⟨by rw [List.append_nil] at h; exact h, trivial⟩
  | x :: r, c, h, k => ⟨h.1, Steps.snoc (cs := cs ++ [x]) h.2 (by rw [List.append_assoc]; exact k)⟩
structure SI (c0 : List Cl) (s : SS) : Prop where
  iv : Iv s
  pn : Pn s []
  cl : s.cl = c0 ++ s.ln
  steps : Steps (c0.map (·.2)) (s.ln.map (·.2))
  ln : s.ln.length ≤ VW s
/-- what is kept, and what grows -/
structure SG (s s' : SS) : Prop where
  many : s'.many = s.many
  up : s'.up = s.up
  vw : VW s < VW s' ∨ (VW s ≤ VW s' ∧ s.tr.length < s'.tr.length)
def mu (s : SS) : Nat := (2 ^ s.many.toNat - VW s) * (s.many.toNat + 1) + (s.many.toNat - s.tr.length)
theorem SG.mu {s s' : SS} (I' : Iv s') (g : SG s s') : mu s' < mu s := by
  unfold Nt.mu
  have h1 := VW_lt I'
  have h2 := I'.len
  rw [g.many] at h1 h2 ⊢
  generalize 2 ^ s.many.toNat = N at *
  generalize s.many.toNat = n at *
  rcases g.vw with h | ⟨h, k⟩
  · obtain ⟨t, ht⟩ : ∃ t, N - VW s = (N - VW s') + 1 + t := ⟨N - VW s - (N - VW s') - 1, by omega⟩
    rw [ht, Nat.add_mul, Nat.add_mul, Nat.one_mul]
    omega
  · have h3 : (N - VW s') * (n + 1) ≤ (N - VW s) * (n + 1) := Nat.mul_le_mul_right _ (by omega)
    omega
theorem SI.spread {c0 : List Cl} {s s' : SS} (S : SI c0 s) (h : SpreadOk s s') : SI c0 s' := by
  have e := VW_ext h.ext
  exact ⟨h.iv, h.pn, by rw [h.ext.cl, h.ext.ln]; exact S.cl, by rw [h.ext.ln]; exact S.steps, by rw [h.ext.ln]; exact Nat.le_trans S.ln e⟩
theorem SG.spread {s s' s2 : SS} (g : SG s s') (h : SpreadOk s' s2) : SG s s2 := by
  have e := VW_ext h.ext
  obtain ⟨y, hy⟩ := h.ext.tr
  have hl : s'.tr.length ≤ s2.tr.length := by rw [hy, List.length_append]; omega
  refine ⟨h.ext.many.trans g.many, h.ext.up.trans g.up, ?_⟩
  rcases g.vw with k | ⟨k, q⟩
  · exact .inl (by omega)
  · exact .inr ⟨by omega, by omega⟩
theorem low_iv {s : SS} (I : Iv s) {n : Int} (h1 : 1 ≤ n) (h2 : ∀ i, 1 ≤ i → i < n → i ∈ s.tr ∨ -i ∈ s.tr) : Iv { s with lo := n } :=
  ⟨I.lo0, I.hi, I.cl, I.inr, I.nd, I.mkp, I.mklt, I.lev, I.rsn, I.rin, I.quiet, I.ks, I.at_, I.atm, h1, h2⟩
theorem SI.choose {c0 : List Cl} {s : SS} (S : SI c0 s) (hk : s.ks = none) (ha : s.at_ = s.tr.length) {n : Int} (o : Opn s n) (hl : ∀ i, 1 ≤ i → i < n → i ∈ s.tr ∨ -i ∈ s.tr) {l : Int} (e : l = n ∨ l = -n) :
    SI c0 (decideF { s with lo := n } l) ∧ SG s (decideF { s with lo := n } l) := by
  have hq := quiet_of S.pn hk ha
  have I1 := low_iv S.iv o.1 hl
  obtain ⟨o1, o2, o3, o4⟩ := o
  have hin : InR s.many l := by unfold InR; omega
  have n1 : l ∉ s.tr := by rcases e with rfl | rfl <;> assumption
  have n2 : -l ∉ s.tr := by
    rcases e with rfl | rfl
    · exact o4
    · rw [Int.neg_neg]; exact o3
  have I2 := decide_iv I1 hin n1 n2 hq ha
  have hv : VW (decideF { s with lo := n } l) = VW s := VW_decide I1 l
  refine ⟨⟨I2, ?_, S.cl, S.steps, by rw [hv]; exact S.ln⟩, rfl, rfl, .inr ⟨by rw [hv]; exact Nat.le_refl _, ?_⟩⟩
  · exact snoc_pn (s := s) (l := l) S.pn S.iv.at_ _ rfl rfl rfl rfl
  · show s.tr.length < (s.tr ++ [l]).length
    rw [List.length_append]; simp
theorem SI.mend {c0 : List Cl} {s s' : SS} {c : Cl} (S : SI c0 s) (h : MendOk s s' c) : SI c0 s' ∧ SG s s' := by
  have hv := h.vw
  have hl := S.ln
  refine ⟨⟨h.iv, h.pn, by rw [h.cl, h.ln, S.cl, List.append_assoc], ?_, by rw [h.ln, List.length_append]; simp; omega⟩, h.many, h.up, .inl h.vw⟩
  rw [h.ln, List.map_append]
  have r := h.rup
  rw [S.cl, List.map_append] at r
  exact S.steps.snoc r
/-- no value: a paper -/
theorem SI.none_ {c0 : List Cl} {s : SS} (S : SI c0 s) {c : Cl} (hk : s.ks = some c) (hm : s.mks = []) : Steps (c0.map (·.2)) (s.ln.map (·.2) ++ [[]]) := by
  have h := ks_clash S.iv hm hk
  rw [S.cl, List.map_append] at h
  exact S.steps.snoc h
/-- all numbers told: each is, one way or the other -/
theorem Iv.full {s : SS} (I : Iv s) (h : s.many ≤ s.tr.length) {n : Int} (h1 : 1 ≤ n) (h2 : n ≤ s.many) : n ∈ s.tr ∨ -n ∈ s.tr := by
  by_cases e : n ∈ s.tr.map ab
  · obtain ⟨l, hl, rfl⟩ := List.mem_map.mp e
    unfold ab at *
    split <;> rename_i q
    · rw [Int.neg_neg]; exact .inr hl
    · exact .inl hl
  · exfalso
    have hnd : (n :: s.tr.map ab).Nodup := List.nodup_cons.mpr ⟨e, I.nd⟩
    have hl := List.Nodup.length_le_of_subset hnd (l₂ := (List.range s.many.toNat).map fun (i : Nat) => (i : Int) + 1) fun x hx => by
      have hx' : 1 ≤ x ∧ x ≤ s.many := by
        rcases List.mem_cons.mp hx with rfl | hx
        · exact ⟨h1, h2⟩
        · obtain ⟨l, hl, rfl⟩ := List.mem_map.mp hx
          exact ab_in (I.inr l hl)
      exact List.mem_map.mpr ⟨(x - 1).toNat, List.mem_range.mpr (by omega), by omega⟩
    rw [List.length_cons, List.length_map, List.length_map, List.length_range] at hl
    omega
theorem Iv.opn {s : SS} (I : Iv s) (h : (s.tr.length : Int) < s.many) : ∃ n, Opn s n := by
  by_cases e : ∃ n, Opn s n
  · exact e
  · exfalso
    have h0 := I.lo0
    have all : ∀ n, 1 ≤ n → n ≤ s.many → n ∈ s.tr.map ab := fun n h1 h2 => by
      by_cases q1 : n ∈ s.tr
      · exact List.mem_map.mpr ⟨n, q1, ab_pos (by omega)⟩
      · by_cases q2 : -n ∈ s.tr
        · exact List.mem_map.mpr ⟨-n, q2, by rw [ab_neg]; exact ab_pos (by omega)⟩
        · exact absurd ⟨n, h1, h2, q1, q2⟩ e
    have hnd : ((List.range s.many.toNat).map fun (i : Nat) => (i : Int) + 1).Nodup := by
      refine List.Pairwise.map _ (fun a b (h : a ≠ b) => ?_) List.nodup_range
      omega
    have hl := List.Nodup.length_le_of_subset hnd (l₂ := s.tr.map ab) fun x hx => by
      obtain ⟨i, hi, rfl⟩ := List.mem_map.mp hx
      have := List.mem_range.mp hi
      exact all _ (by omega) (by omega)
    rw [List.length_map, List.length_map, List.length_range] at hl
    omega
/-- values that hold -/
theorem SI.values {c0 : List Cl} {s : SS} (S : SI c0 s) (hk : s.ks = none) (ha : s.at_ = s.tr.length) (h : s.many ≤ s.tr.length) : ∀ c ∈ c0, ∃ l ∈ c.2, l ∈ s.tr := by
  intro c hc
  have hc' : c ∈ s.cl := by rw [S.cl]; exact List.mem_append_left _ hc
  rcases quiet_of S.pn hk ha c hc' with h1 | ⟨a, ha', b, _, _, o1, _⟩
  · exact h1
  · have hr := (isCl_iff.mp (S.iv.cl c hc')).1 a ha'
    obtain ⟨q1, q2⟩ := ab_in hr
    refine ⟨a, ha', ?_⟩
    have := S.iv.full h q1 q2
    unfold ab at this
    split at this
    · rcases this with t | t
      · exact absurd t o1
      · rwa [Int.neg_neg] at t
    · rcases this with t | t
      · exact t
      · exact absurd t o1
/-- by their numbers -/
theorem vals_of {s : SS} (I : Iv s) (h : s.many ≤ s.tr.length) {ys : List Int} (hp : ys.Perm s.tr) (ho : (ys.map ab).Pairwise (· ≤ ·)) : isVal s.many ys = true := by
  have hn : (ys.map ab).Nodup := ((hp.map ab).nodup_iff).mpr I.nd
  have hs : (ys.map ab).Pairwise (· < ·) := (ho.and hn).imp fun h => by omega
  have h0 := I.lo0
  have hlen := I.len
  have hyl : ys.length = s.many.toNat := by
    have := hp.length_eq
    omega
  have he : ys.map ab = (List.range s.many.toNat).map fun (i : Nat) => (i : Int) + 1 := by
    refine List.Perm.eq_of_pairwise (le := fun a b : Int => a ≤ b) (fun x y _ _ h1 h2 => Int.le_antisymm h1 h2) (hs.imp fun h => Int.le_of_lt h) ?_ ?_
    · refine List.Pairwise.map _ (fun a b (h : a < b) => ?_) List.pairwise_lt_range
      omega
    · refine (List.perm_ext_iff_of_nodup hn ?_).mpr fun x => ?_
      · refine List.Pairwise.map _ (fun a b (h : a ≠ b) => ?_) List.nodup_range
        omega
      · constructor
        · intro hx
          obtain ⟨l, hl, rfl⟩ := List.mem_map.mp hx
          have := ab_in (I.inr l (hp.mem_iff.mp hl))
          exact List.mem_map.mpr ⟨(ab l - 1).toNat, List.mem_range.mpr (by omega), by omega⟩
        · intro hx
          obtain ⟨i, hi, rfl⟩ := List.mem_map.mp hx
          have hi := List.mem_range.mp hi
          rcases I.full h (n := (i : Int) + 1) (by omega) (by omega) with q | q
          · exact List.mem_map.mpr ⟨_, hp.mem_iff.mpr q, ab_pos (by omega)⟩
          · exact List.mem_map.mpr ⟨_, hp.mem_iff.mpr q, by rw [ab_neg]; exact ab_pos (by omega)⟩
  unfold isVal
  rw [Bool.and_eq_true]
  refine ⟨decide_eq_true (by omega), ?_⟩
  rw [List.all_eq_true]
  rintro ⟨y, i⟩ hyi
  have hyi := List.mem_zipIdx_iff_getElem?.mp hyi
  refine decide_eq_true ?_
  show ab y = (i : Int) + 1
  have h1 : (ys.map ab)[i]? = some (ab y) := by rw [List.getElem?_map, hyi]; rfl
  have hil := (List.getElem?_eq_some_iff.mp hyi).1
  rw [he, List.getElem?_map, List.getElem?_range (by omega)] at h1
  exact (Option.some.inj h1).symm
end Nt
set_option maxRecDepth 100000
set_option maxHeartbeats 1000000
/-! NtV3: the search: back, spread. -/
namespace Nt
open PySem PySem.Spec PyProof.Rows L2
theorem filter_ne {xs : List Int} {z : Int} (h : z ∉ xs) : (xs.filter fun l => decide (l ≠ z)) = xs := List.filter_eq_self.mpr fun a ha => decide_eq_true fun (q : a = z) => h (q ▸ ha)
section
variable {P : Program} {w : World} {K : PySem.W.Frag} {mg : Str → Option Value} {base : Heap}
theorem sc_Search_back_to : FnScope ["self", "level", "literal"] ["self", "level"] (defScope s_Search_back_to) := ⟨rfl, rfl, rfl, by decide +kernel, rfl, by decide +kernel, by decide +kernel⟩
theorem ok_Search_back_to (T : Tx K mg)  : CalF P w K mg base ("Search", some "back_to") 1 ["self", "level"] (sp_Search_back_to K) := by
  have mg_len : mg "len" = none := T.free 62
  have mg_min : mg "min" = none := T.free 65
  have mg_abs : mg "abs" = none := T.free 54
  have cl_Search : Cls K (He.ga K "Search") := T.cls 89
  have no_Search_trail : NoAttr K (He.ga K "Search") "trail" := T.noat 114
  have no_Search_marks : NoAttr K (He.ga K "Search") "marks" := T.noat 111
  have no_Search_at : NoAttr K (He.ga K "Search") "at" := T.noat 103
  have no_Search_clash : NoAttr K (He.ga K "Search") "clash" := T.noat 105
  have no_Search_low : NoAttr K (He.ga K "Search") "low" := T.noat 109
  have no_Search_sure : NoAttr K (He.ga K "Search") "sure" := T.noat 113
  refine calF T (d := d_Search_back_to) 21 rfl sc_Search_back_to rfl rfl (fun _ _ _ _ _ _ us hl => match us, hl with | [_, _], _ => rfl) (len_Search_back_to K) ?_
  intro cdv A outer s H vs Q E hr h
  have hu := hu_of hr
  obtain ⟨p, H0, A, s, j, m, rfl, G, I, hj, k⟩ := h
  have hjl := (List.getElem?_eq_some_iff.mp hj).1
  have hm : m ∈ s.mks := List.mem_of_getElem? hj
  have hml := I.mklt m hm
  have h30 := I.len100
  have hat : atI (s.mks.map fun m => V.int (m : Nat)) (j : Int) = some (.int (m : Nat)) := atI_nat (by rw [List.getElem?_map, hj]; rfl)
  refine ⟨_, (pss_cons (ps_if (pt_cmpR op_lt (pv 1) (pe_callB call_len2 (by rfl) mg_len bt_len (pa_cons (pe_fld2 cl_Search no_Search_marks (pv 0)) pa_nil)) (nomark _)) (pss_cons (ps_for PassesOwn.never rfl (pi_listK (K := K) rfl (pe_slice sl_list2 (pe_fld2 cl_Search no_Search_trail (pv 0)) (po_some (pe_ix ix_list2 (pe_fld2 cl_Search no_Search_marks (pv 0)) (pv 1) (fun _ _ => rfl))) po_none)) (pg_name (i := 2) sc_Search_back_to.nd rfl (Or.inl rfl)) (pss_cons (ps_ddel (pe_fld2 cl_Search no_Search_sure (pv 0)) (pv 2))
      (pss_one (ps_fld2 cl_Search no_Search_low (pv 0) (pe_callB (call_min2 rfl) (by rfl) mg_min bt_min (pa_cons (pe_fld2 cl_Search no_Search_low (pv 0)) (pa_cons (pe_callB call_abs (by rfl) mg_abs bt_abs (pa_cons (pv 2) pa_nil)) pa_nil))) rfl))))
      (pss_cons (ps_fld2 cl_Search no_Search_trail (pv 0) (pe_slice sl_list2 (pe_fld2 cl_Search no_Search_trail (pv 0)) po_none (po_some (pe_ix ix_list2 (pe_fld2 cl_Search no_Search_marks (pv 0)) (pv 1) (fun _ _ => rfl)))) rfl)
      (pss_one (ps_fld2 cl_Search no_Search_marks (pv 0) (pe_slice sl_list2 (pe_fld2 cl_Search no_Search_marks (pv 0)) po_none (po_some (pv 1))) rfl)))) pss_nil)
      (pss_one (ps_asg (pe_tup (pa_cons (pe_callB (call_min2 rfl) (by rfl) mg_min bt_min (pa_cons (pe_fld2 cl_Search no_Search_at (pv 0)) (pa_cons (pe_callB call_len2 (by rfl) mg_len bt_len (pa_cons (pe_fld2 cl_Search no_Search_trail (pv 0)) pa_nil)) pa_nil))) (pa_cons pe_non pa_nil))) (pg_tup rfl (pgs_cons (pg_fld2 cl_Search no_Search_at (pv 0)) (pgs_cons (pg_fld2 cl_Search no_Search_clash (pv 0)) pgs_nil)))))), ?_⟩
  refine ⟨_, rfl, _, rfl, _, _, _, _, rfl, G.ins, rfl, A.k, _, rfl, .inl G.hk, _, _, rfl, rfl, _, rfl, ?_⟩
  rw [List.length_map, decide_eq_true (by omega)]
  refine iteT ?_
  refine ⟨_, rfl, _, _, _, _, rfl, G.ins, rfl, _, rfl, _, _, _, _, rfl, G.ins, rfl, _, rfl, A.k, _, _, _, rfl, rfl, G.hk, hat, _, rfl, A.t, _, rfl, G.ht, fun x hx => ?_⟩
  rw [cut_drop, ← List.map_drop]
  have G0 : SAt1 K (upd H0 x (.lst ((s.tr.drop m).map V.int))) (upd H x (.lst ((s.tr.drop m).map V.int))) p A s := G.frame (.inl hx) (G.cls.mono (Same.new hx))
  have hH0 : Same H0 (upd H0 x (.lst ((s.tr.drop m).map V.int))) := Same.new (G.same.free hx)
  refine ⟨x, rfl, ⟨_, SqL.of upd_same⟩, ?_⟩
  have hnd := nd_tr I.nd
  refine forA (s.tr.drop m) (fun σ l => σ.set 2 (some (.int l))) (wkL (s.tr.drop m) V.int) (fun σ => yName) (fun don σ H2 => ∃ y rest, s.tr.drop m = don ++ rest ∧ σ = [some (.ref p), some (.int (j : Nat)), y] ∧ SAt K (upd H0 x (.lst ((s.tr.drop m).map V.int))) H2 p A { s with lo := lower s.lo don } (s.tr.take m ++ rest) (s.cl.map (·.2))) ?_ ?_ ?_ ?_
  · refine ⟨none, s.tr.drop m, rfl, rfl, ?_⟩
    rw [List.take_append_drop]
    exact G0
  · rintro l σ H2 ⟨y, rest, _, _, G2⟩
    exact SqL.of (G2.same _ _ upd_same)
  · rintro l z r σ H2 H3 e ⟨y, rest, e2, rfl, G2⟩ s3
    have er : rest = z :: r := by
      rw [e] at e2
      exact (List.append_cancel_left e2).symm
    subst er
    have G3 := G2.grow s3
    have hnd2 : (s.tr.take m ++ (l ++ z :: r)).Nodup := by rw [← e, List.take_append_drop]; exact hnd
    rw [List.nodup_append] at hnd2
    obtain ⟨n1, n2, n3⟩ := hnd2
    rw [List.nodup_append] at n2
    have hzr : z ∉ r := (List.nodup_cons.mp n2.2.1).1
    have hzt : z ∉ s.tr.take m := fun h => n3 z h z (by simp) rfl
    refine ⟨_, rfl, _, _, _, _, rfl, G3.ins, rfl, _, rfl, A.u, _, .inl z, rfl, G3.hu, rfl, ?_, ?_⟩
    · rw [valV_true]
      exact decide_eq_true (by simp)
    · rw [dropK_true]
      have ef : ((s.tr.take m ++ z :: r).filter fun l => decide (l ≠ z)) = s.tr.take m ++ r := by
        rw [List.filter_append, List.filter_cons, if_neg (by simp), filter_ne hzt, filter_ne hzr]
      rw [ef]
      have G4 := G3.updU (s.tr.take m ++ r)
      refine ⟨_, rfl, _, _, _, _, rfl, G4.ins, rfl, _, rfl, z, rfl, _, _, rfl, _, rfl, p, _, _, rfl, G4.ins, by show 13 < 1000; decide, ?_⟩
      refine ⟨_, r, by rw [e]; simp, rfl, ?_⟩
      have el : (if (if z < 0 then -z else z) < lower s.lo l then (if z < 0 then -z else z) else lower s.lo l) = lower s.lo (l ++ [z]) := by
        unfold lower
        rw [List.foldl_append]
        show _ = min _ (ab z)
        show (if ab z < _ then ab z else _) = _
        split <;> omega
      have G5 := G4.updP s.at_ s.ks (lower s.lo (l ++ [z])) s.up
      rw [← el] at G5 ⊢
      exact G5
  · rintro σ H2 ⟨y, rest, e2, rfl, G2⟩
    have er : rest = [] := by
      have := congrArg List.length e2
      rw [List.length_append] at this
      exact List.length_eq_zero_iff.mp (by omega)
    subst er
    rw [List.append_nil] at G2
    have G2 := G2.less hH0
    refine ⟨_, rfl, _, _, _, _, rfl, G2.ins, rfl, _, rfl, _, _, _, _, rfl, G2.ins, rfl, _, rfl, A.k, _, _, _, rfl, rfl, G2.hk, hat, _, rfl, A.t, _, rfl, G2.ht, fun x1 hx1 => ?_⟩
    rw [cut_take, ← List.map_take]
    have g1 := Same.new (o := .lst ((s.tr.take m).map V.int)) hx1
    refine ⟨_, rfl, p, _, _, rfl, (G2.grow g1).ins, by show 13 < 1000; decide, ?_⟩
    have G3 := G2.newT hx1 (s.tr.take m) fun l hl => List.mem_of_mem_take hl
    refine ⟨_, rfl, _, _, _, _, rfl, G3.ins, rfl, _, rfl, _, rfl, A.k, _, rfl, G3.hk, fun x2 hx2 => ?_⟩
    rw [cut_take, ← List.map_take]
    have g2 := Same.new (o := .lst ((s.mks.take j).map fun m => V.int (m : Nat))) hx2
    refine ⟨_, rfl, p, _, _, rfl, (G3.grow g2).ins, by show 13 < 1000; decide, ?_⟩
    have G4 := G3.newK hx2 (s.mks.take j)
    refine ⟨_, rfl, _, _, _, _, rfl, G4.ins, rfl, _, rfl, _, _, _, _, rfl, G4.ins, rfl, x1, _, rfl, .inl G4.ht, _, _, rfl, by show 2 ≤ sizeLine; decide, fun t ht => ?_⟩
    have emin : (if (((s.tr.take m).map V.int).length : Int) < (s.at_ : Int) then (((s.tr.take m).map V.int).length : Int) else (s.at_ : Int)) = (m : Nat) := by
      have h1 := I.atm m hm
      rw [List.length_map, List.length_take, Nat.min_eq_left (Nat.le_of_lt hml)]
      split <;> omega
    have G5 := G4.grow (Same.new (o := .tup [.int (if (((s.tr.take m).map V.int).length : Int) < (s.at_ : Int) then (((s.tr.take m).map V.int).length : Int) else (s.at_ : Int)), .non]) ht)
    refine ⟨t, _, rfl, SqT.of upd_same, rfl, _, _, rfl, ⟨_, rfl, p, _, _, rfl, G5.ins, by show 13 < 1000; decide, _, _, rfl, ⟨_, rfl, p, _, _, rfl, upd_same, by show 13 < 1000; decide, rfl, ?_⟩⟩⟩
    refine k _ { { A with t := x1 } with k := x2 } ?_
    rw [emin] at G5 ⊢
    have G6 := G5.updP m s.ks (lower s.lo (s.tr.drop m)) s.up
    exact G6.updP m none (lower s.lo (s.tr.drop m)) s.up
theorem sc_Search_spread : FnScope ["self", "literal", "place"] ["self"] (defScope s_Search_spread) := ⟨rfl, rfl, rfl, by decide +kernel, rfl, by decide +kernel, by decide +kernel⟩
theorem ok_Search_spread (T : Tx K mg) (C_Search_look : CalF P w K mg base ("Search", some "look") 2 ["self", "clause"] (sp_Search_look K)) : CalF P w K mg base ("Search", some "spread") 3 ["self"] (sp_Search_spread K) := by
  have mg_len : mg "len" = none := T.free 62
  obtain ⟨fd_Search_look, b_Search_look, G_Search_look, kp_Search_look⟩ := C_Search_look
  have mt_Search_look : Meth K (He.ga K "Search") "look" (He.ma K (He.ga K "Search") "look") := T.meth 93
  have cl_Search : Cls K (He.ga K "Search") := T.cls 89
  have no_Search_at : NoAttr K (He.ga K "Search") "at" := T.noat 103
  have no_Search_clash : NoAttr K (He.ga K "Search") "clash" := T.noat 105
  have no_Search_trail : NoAttr K (He.ga K "Search") "trail" := T.noat 114
  have no_Search_by : NoAttr K (He.ga K "Search") "by" := T.noat 104
  have no_Search_clauses : NoAttr K (He.ga K "Search") "clauses" := T.noat 106
  refine calF T (d := d_Search_spread) 18 rfl sc_Search_spread rfl rfl (fun _ _ _ _ _ _ us hl => match us, hl with | [_], _ => rfl) (len_Search_spread K) ?_
  intro cdv A outer s H vs Q E hr h
  have hu := hu_of hr
  obtain ⟨p, H0, A, s, rfl, G, I, hpn, hcl, k⟩ := h
  refine ⟨_, (pss_one (ps_while PassesOwn.never (PW.pt (pw_and (pt_cmpR op_isN (pe_fld2 cl_Search no_Search_clash (pv 0)) pe_non (nomark _)) (pw_and1 (pt_cmpR op_lt (pe_fld2 cl_Search no_Search_at (pv 0)) (pe_callB call_len2 (by rfl) mg_len bt_len (pa_cons (pe_fld2 cl_Search no_Search_trail (pv 0)) pa_nil)) (nomark _))))) (pss_cons (ps_set (i := 1) sc_Search_spread.nd rfl (Or.inl rfl) (pe_ix ix_list2 (pe_fld2 cl_Search no_Search_trail (pv 0)) (pe_fld2 cl_Search no_Search_at (pv 0)) (fun _ _ => rfl)))
      (pss_cons (ps_fldaug2 cl_Search no_Search_at (pv 0) pe_int in_add)
      (pss_one (ps_for PassesOwn.never rfl (pi_listK (K := K) rfl (pe_dget2 hu (pe_fld2 cl_Search no_Search_by (pv 0)) (pe_op op_sub pe_int (pv 1)) (pe_lst pa_nil) ⟨rfl, rfl, rfl, rfl⟩)) (pg_name (i := 2) sc_Search_spread.nd rfl (Or.inl rfl)) (pss_one (ps_if (pt_cmpR op_isN (pe_fld2 cl_Search no_Search_clash (pv 0)) pe_non (nomark _)) (pss_one (ps_expr (pe_meth (pv 0) cl_Search mt_Search_look G_Search_look (hr.mono (by decide)) b_Search_look .nil pass0 (pa_cons (pe_ix ix_list2 (pe_fld2 cl_Search no_Search_clauses (pv 0)) (pv 2) (fun _ _ => rfl)) pa_nil)))) pss_nil)))))))), ?_⟩
  refine ⟨fun n σ H2 => ∃ s' x y, σ = [some (.ref p), x, y] ∧ SAt1 K H0 H2 p A s' ∧ Iv s' ∧ Ext s s' ∧ Pn s' [] ∧ n = 31 - s'.at_, ⟨_, s, none, none, rfl, G, I, .refl s, hpn, rfl⟩, ?_⟩
  rintro n σ H2 ⟨s', x, y, rfl, G2, I2, X2, P2, rfl⟩
  refine ⟨_, rfl, _, _, _, _, rfl, G2.ins, rfl, rfl, _, rfl, ?_⟩
  cases hk : s'.ks with
  | some c =>
    refine iteF (iteF ?_)
    exact k H2 s' G2 ⟨I2, X2, P2, fun z => by rw [hk] at z; cases z⟩
  | none =>
    refine iteT ?_
    refine ⟨_, rfl, _, _, _, _, rfl, G2.ins, rfl, _, rfl, _, _, _, _, rfl, G2.ins, rfl, A.t, _, rfl, .inl G2.ht, _, _, rfl, rfl, _, rfl, ?_⟩
    rw [List.length_map]
    refine ite2 (fun h => ?_) (fun h => ?_)
    · have hlt : s'.at_ < s'.tr.length := by have := of_decide_eq_true h; omega
      refine ⟨_, fun _ _ h => h, ?_⟩
      obtain ⟨l, hl⟩ : ∃ l, s'.tr[s'.at_]? = some l := ⟨_, List.getElem?_eq_getElem hlt⟩
      have hlv : atI (s'.tr.map V.int) (s'.at_ : Int) = some (.int l) := atI_nat (by rw [List.getElem?_map, hl]; rfl)
      refine ⟨_, rfl, _, _, _, _, rfl, G2.ins, rfl, _, rfl, _, _, _, _, rfl, G2.ins, rfl, A.t, _, _, _, rfl, rfl, G2.ht, hlv, ?_⟩
      refine ⟨_, rfl, p, _, _, _, rfl, G2.ins, rfl, _, _, rfl, rfl, _, _, G2.ins, by show 13 < 1000; decide, ?_⟩
      have e1 : putF "at" (.int ((s'.at_ : Int) + 1)) (fsOf A s') = fsOf A { s' with at_ := s'.at_ + 1 } := rfl
      rw [e1]
      have G3 := G2.updP (s'.at_ + 1) s'.ks s'.lo s'.up
      have I3 : Iv { s' with at_ := s'.at_ + 1 } := ⟨I2.lo0, I2.hi, I2.cl, I2.inr, I2.nd, I2.mkp, I2.mklt, I2.lev, I2.rsn, I2.rin, I2.quiet, I2.ks, hlt, fun m hm => Nat.le_succ_of_le (I2.atm m hm), I2.low1, I2.low⟩
      have X3 : Ext s { s' with at_ := s'.at_ + 1 } := ⟨X2.many, X2.cl, X2.mks, X2.ln, X2.lo, X2.up, X2.tr⟩
      have P3 : Pn { s' with at_ := s'.at_ + 1 } ((occP (-l) s'.cl).map (·.2)) := by
        intro z c hc
        rcases P2 hk c hc with h | h | ⟨i, q, hi, hq, hm⟩
        · cases h
        · exact .inr (.inl h)
        · rcases Nat.lt_or_eq_of_le hi with h | h
          · exact .inr (.inr ⟨i, q, h, hq, hm⟩)
          · rw [← h, hl] at hq
            cases hq
            obtain ⟨jj, hj⟩ := List.getElem?_of_mem hc
            exact .inl (List.mem_map.mpr ⟨((jj : Int), c), mem_occP.mpr ⟨jj, rfl, hj, hm⟩, rfl⟩)
      generalize hH3 : upd H2 p (.ins (He.ga K "Search") A.dx (fsOf A { s' with at_ := s'.at_ + 1 })) = H3
      have G3 : SAt1 K H0 H3 p A { s' with at_ := s'.at_ + 1 } := by rw [← hH3]; exact G3
      have fin : ∀ H4 s4 y, SAt1 K H0 H4 p A s4 → Iv s4 → Ext s s4 → s4.at_ = s'.at_ + 1 → Pn s4 [] → ∃ m', m' < 31 - s'.at_ ∧ ∃ s5 x5 y5, [some (V.ref p), some (.int l), y] = [some (.ref p), x5, y5] ∧ SAt1 K H0 H4 p A s5 ∧ Iv s5 ∧ Ext s s5 ∧ Pn s5 [] ∧ m' = 31 - s5.at_ := by
        intro H4 s4 y g i x a pn
        have := I2.len100
        exact ⟨31 - s4.at_, by rw [a]; omega, s4, _, _, rfl, g, i, x, pn, rfl⟩
      have ecl : s'.cl = s.cl := X2.cl
      refine ⟨_, rfl, _, _, _, _, rfl, G3.ins, rfl, A.b, rfl, .inl ⟨_, .inl G3.by_.at_⟩, _, rfl, _, _, rfl, rfl, Nat.zero_le _, fun d hd => ?_⟩
      have gd := Same.new (o := .lst []) hd
      have G4 := G3.grow gd
      refine ⟨_, DGet.k (k := .inl (0 - l)) G4.by_.at_, ?_⟩
      rw [Int.zero_sub]
      have eq : ∀ ys : List (Int × Cl), (ys.map fun x => V.int x.1) = (ys.map (·.1)).map V.int := fun ys => by rw [List.map_map]; rfl
      rcases G4.by_.get (-l) with ⟨h1, h2⟩ | ⟨bq, h1, h2, _⟩
      · rw [h1]
        refine ⟨d, rfl, ⟨[], SqL.of upd_same⟩, ?_⟩
        have e0 : (occP (-l) s'.cl) = [] := by
          have h3 : (occP (-l) s'.cl).map (·.1) = [] := (occP_fst _ _).trans h2
          exact List.map_eq_nil_iff.mp h3
        refine forA ([] : List Int) (fun σ l => σ.set 2 (some (.int l))) (wkL [] V.int) (fun σ => yName) (fun don σ H5 => σ = [some (.ref p), some (.int l), y] ∧ SqL K H5 d [] ∧ SAt1 K H0 H5 p A { s' with at_ := s'.at_ + 1 }) ⟨rfl, SqL.of upd_same, G4⟩ (fun l σ H h => h.2.1) ?_ ?_
        · intro l' a r σ H5 H6 e
          have := congrArg List.length e
          simp at this
        · rintro σ H5 ⟨rfl, _, G5⟩
          exact fin H5 _ _ G5 I3 X3 rfl (by rw [e0] at P3; exact P3)
      · rw [h1]
        have h2' : upd H3 d (.lst []) bq = some (.lst ((occP (-l) s'.cl).map fun x => V.int x.1)) := by
          rw [eq, occP_fst]; exact h2
        refine ⟨bq, rfl, ⟨_, SqL.of h2'⟩, ?_⟩
        refine forA (occP (-l) s'.cl) (fun σ x => σ.set 2 (some (.int x.1))) (wkL (occP (-l) s'.cl) fun x => V.int x.1) (fun σ => yName) (fun don σ H5 => ∃ s5 y5 rest, occP (-l) s'.cl = don ++ rest ∧ σ = [some (.ref p), some (.int l), y5] ∧ SAt1 K H0 H5 p A s5 ∧ Iv s5 ∧ Ext s s5 ∧ s5.at_ = s'.at_ + 1 ∧ Pn s5 (rest.map (·.2))) ⟨_, y, _, rfl, rfl, G4, I3, X3, rfl, P3⟩ ?_ ?_ ?_
        · rintro l' σ H5 ⟨s5, y5, rest, _, _, G5, I5, X5, _⟩
          rcases G5.by_.get (-l) with ⟨k1, _⟩ | ⟨b2, k1, k2, _⟩
          · rw [h1] at k1; cases k1
          · rw [h1] at k1
            cases k1
            rw [X5.cl, ← ecl, ← occP_fst, ← eq] at k2
            exact SqL.of k2
        · rintro l' z r σ H5 H6 e ⟨s5, y5, rest, e2, rfl, G5, I5, X5, a5, P5⟩ s6
          have er : rest = z :: r := by
            rw [e] at e2
            exact (List.append_cancel_left e2).symm
          subst er
          have G6 := G5.grow s6
          have hz : z ∈ occP (-l) s'.cl := by rw [e]; simp
          obtain ⟨jj, z1, z2, z3⟩ := mem_occP.mp hz
          have hc5 : s5.cl[jj]? = some z.2 := by rw [X5.cl, ← ecl]; exact z2
          have hcm : z.2 ∈ s5.cl := List.mem_of_getElem? hc5
          have hix := at_cls hc5
          rw [← z1] at hix
          refine ⟨_, rfl, _, _, _, _, rfl, G6.ins, rfl, rfl, _, rfl, ?_⟩
          cases hk5 : s5.ks with
          | some c =>
            refine iteF ?_
            exact ⟨s5, _, r, by rw [e]; simp, rfl, G6, I5, X5, a5, fun q => by rw [hk5] at q; cases q⟩
          | none =>
            refine iteT ?_
            refine ⟨_, rfl, p, _, _, rfl, G6.ins, rfl, _, rfl, _, _, _, _, rfl, G6.ins, rfl, _, rfl, A.a, _, z.1, _, rfl, rfl, G6.ha, hix, p, H0, A, s5, z.2, rfl, G6, I5, hcm, fun H7 G7 => ?_⟩
            obtain ⟨q1, q2, q3, q4, q5⟩ := look_ok I5 hcm
            exact ⟨lookF s5 z.2, _, r, by rw [e]; simp, rfl, G7, q1, X5.trans q2, q3.trans a5, q4 _ P5⟩
        · rintro σ H5 ⟨s5, y5, rest, e2, rfl, G5, I5, X5, a5, P5⟩
          have er : rest = [] := by
            have := congrArg List.length e2
            rw [List.length_append] at this
            exact List.length_eq_zero_iff.mp (by omega)
          subst er
          exact fin H5 s5 y5 G5 I5 X5 a5 P5
    · refine k H2 s' G2 ⟨I2, X2, P2, fun _ => ?_⟩
      have h1 := I2.at_
      have h2 : ¬ (s'.at_ : Int) < s'.tr.length := fun z => h (decide_eq_true z)
      omega
end
end Nt
set_option maxRecDepth 100000
set_option maxHeartbeats 1000000
/-! NtV4: the search: learn. -/
namespace Nt
open PySem PySem.Spec PyProof.Rows L2
theorem SAt.gLev {K : PySem.W.Frag} {H0 H : Hp} {p : Addr} {A : Ad} {s : SS} {S : List Int} {B : List (List Int)} (G : SAt K H0 H p A s S B) {y : Int} (hy : -y ∈ s.tr) : DGet H A.v (.int (ab y)) (some (.int (s.lv (ab y)))) := by
  obtain ⟨kvs, h1, _, h3⟩ := G.hv
  have h := DGet.k (k := .inl (ab y)) h1
  have e := h3 _ hy
  rw [ab_neg] at e
  rw [e] at h
  exact h
theorem SAt.gRsn {K : PySem.W.Frag} {H0 H : Hp} {p : Addr} {A : Ad} {s : SS} {S : List Int} {B : List (List Int)} (G : SAt K H0 H p A s S B) {y : Int} (hy : y ∈ s.tr) : DGet H A.r (.int (ab y)) (some (oV (s.rs (ab y)))) := by
  obtain ⟨kvs, h1, _, h3⟩ := G.hr
  have h := DGet.k (k := .inl (ab y)) h1
  rw [h3 _ hy] at h
  exact h
theorem erase_ix {k : Int} : ∀ {ns : List Int}, k ∈ ns → ∃ j, ns[j]? = some k ∧ (∀ m, m < j → ns[m]? ≠ some k) ∧ ns.eraseIdx j = ns.erase k
  | n :: ns, h => by
    by_cases e : n = k
    · exact ⟨0, by rw [e]; rfl, fun m hm => absurd hm (Nat.not_lt_zero m), by rw [e]; simp⟩
    · have hk : k ∈ ns := (List.mem_cons.mp h).resolve_left fun z => e z.symm
      obtain ⟨j, h1, h2, h3⟩ := erase_ix hk
      refine ⟨j + 1, by simpa using h1, fun m hm => ?_, ?_⟩
      · cases m with
        | zero => simpa using e
        | succ m => simpa using h2 m (by omega)
      · rw [List.eraseIdx_cons_succ, h3, List.erase_cons_tail (by simpa using e)]
def sp_Search_learn (K : PySem.W.Frag) : Sp := fun vs H Q _ => ∃ (p : Addr) (H0 : Hp) (A : Ad) (s : SS) (c : Cl), vs = [.ref p] ∧ SAt1 K H0 H p A s ∧ Iv s ∧ s.ks = some c ∧ s.mks ≠ [] ∧
  ∀ H' t q c' j m, Same H H' → H' t = some (.tup [.ref q, .int (j : Nat)]) → H' q = some (.tup (c'.map V.int)) → LearnOk s c' j m → Q (.ref t) H'
theorem len_Search_learn (K : PySem.W.Frag) : ∀ vs H Q E, sp_Search_learn K vs H Q E → vs.length = 1 := by
  rintro vs H Q E ⟨p, H0, A, s, c, rfl, _⟩; rfl
section
variable {P : Program} {w : World} {K : PySem.W.Frag} {mg : Str → Option Value} {base : Heap}
theorem sc_Search_learn : FnScope ["self", "now", "found", "place", "one", "literal", "levels"] ["self"] (defScope s_Search_learn) := ⟨rfl, rfl, rfl, by decide +kernel, rfl, by decide +kernel, by decide +kernel⟩
theorem ok_Search_learn (T : Tx K mg)  : CalF P w K mg base ("Search", some "learn") 1 ["self"] (sp_Search_learn K) := by
  have mg_sorted : mg "sorted" = none := T.free 69
  have mg_len : mg "len" = none := T.free 62
  have mg_list : mg "list" = none := T.free 63
  have mg_tuple : mg "tuple" = none := T.free 73
  have mg_abs : mg "abs" = none := T.free 54
  have cl_Search : Cls K (He.ga K "Search") := T.cls 89
  have no_Search_marks : NoAttr K (He.ga K "Search") "marks" := T.noat 111
  have no_Search_clash : NoAttr K (He.ga K "Search") "clash" := T.noat 105
  have no_Search_trail : NoAttr K (He.ga K "Search") "trail" := T.noat 114
  have no_Search_level : NoAttr K (He.ga K "Search") "level" := T.noat 108
  have no_Search_reason : NoAttr K (He.ga K "Search") "reason" := T.noat 112
  refine calF T (d := d_Search_learn) 22 rfl sc_Search_learn rfl rfl (fun _ _ _ _ _ _ us hl => match us, hl with | [_], _ => rfl) (len_Search_learn K) ?_
  intro cdv A outer s H vs Q E hr h
  have hu := hu_of hr
  obtain ⟨p, H0, A, s, c, rfl, G, I, hk, hmk, k⟩ := h
  have h30 := I.len100
  have hcm := (I.ks c hk).1
  have hc := G.cls c hcm
  have hks : oV s.ks = rf c := by rw [hk]; rfl
  refine ⟨_, (pss_cons (ps_asg (pe_tup (pa_cons (pe_callB call_len2 (by rfl) mg_len bt_len (pa_cons (pe_fld2 cl_Search no_Search_marks (pv 0)) pa_nil)) (pa_cons (pe_callTy call_list2 (by rfl) mg_list bt_list (pa_cons (pe_fld2 cl_Search no_Search_clash (pv 0)) pa_nil)) pa_nil))) (pg_tup rfl (pgs_cons (pg_name (i := 1) sc_Search_learn.nd rfl (Or.inr rfl)) (pgs_cons (pg_name (i := 2) sc_Search_learn.nd rfl (Or.inr rfl)) pgs_nil))))
      (pss_cons (ps_set (i := 3) sc_Search_learn.nd rfl (Or.inl rfl) (pe_op op_sub (pe_callB call_len2 (by rfl) mg_len bt_len (pa_cons (pe_fld2 cl_Search no_Search_trail (pv 0)) pa_nil)) pe_int))
      (pss_cons (ps_while PassesOwn.never (pt_cmpR op_gt (pe_callB call_len2 (by rfl) mg_len bt_len (pa_cons (pe_lc (own := [("one", 4)]) (g := gName 4) rfl sc_Search_learn.nd (pi_listK (K := K) rfl (pv 2)) (blkOk_by (by kernel_rfl)) (fun _ _ _ _ _ => (pg_name (i := 4) sc_Search_learn.nd rfl (Or.inl rfl))) (fun _ _ _ _ _ => (pts_one (pt_cmpR op_eq (pe_dget hu (pe_fld2 cl_Search no_Search_level (pv 0)) (pe_callB call_abs (by rfl) mg_abs bt_abs (pa_cons (pv 4) pa_nil)) (fun _ _ => rfl)) (pv 1) (nomark _)))) (fun _ _ _ _ _ => (pv 4))) pa_nil)) pe_int (nomark _)) (pss_cons (ps_while PassesOwn.never (pt_cmpR op_notIn2 (pe_op op_sub pe_int (pe_ix ix_list2 (pe_fld2 cl_Search no_Search_trail (pv 0)) (pv 3) (fun _ _ => rfl))) (pv 2) (by rfl)) (pss_one (ps_aug (i := 3) sc_Search_learn.nd rfl (Or.inl rfl) pe_int ip_sub)))
      (pss_cons (ps_set (i := 5) sc_Search_learn.nd rfl (Or.inr rfl) (pe_ix ix_list2 (pe_fld2 cl_Search no_Search_trail (pv 0)) (pv 3) (fun _ _ => rfl)))
      (pss_cons (ps_expr (pe_bm PySem.F.plainAttrs_list PySem.F.slot_list_remove PySem.F.type_list_remove mt_remove (pv 2) (pa_cons (pe_op op_sub pe_int (pv 5)) pa_nil)))
      (pss_cons (ps_expr (pe_bm PySem.F.plainAttrs_list PySem.F.slot_list_extend PySem.F.type_list_extend mt_extend (pv 2) (pa_cons (pe_lc (own := [("one", 4)]) (g := gName 4) rfl sc_Search_learn.nd (pi_tupK (K := K) rfl (pe_dget hu (pe_fld2 cl_Search no_Search_reason (pv 0)) (pe_callB call_abs (by rfl) mg_abs bt_abs (pa_cons (pv 5) pa_nil)) (fun _ _ => rfl))) (blkOk_by (by kernel_rfl)) (fun _ _ _ _ _ => (pg_name (i := 4) sc_Search_learn.nd rfl (Or.inl rfl))) (fun _ _ _ _ _ => (pts_one (PW.pt (pw_and (pt_cmpR op_ne (pv 4) (pv 5) (nomark _)) (pw_and1 (pt_cmpR op_notIn2 (pv 4) (pv 2) (by rfl))))))) (fun _ _ _ _ _ => (pv 4))) pa_nil)))
      (pss_one (ps_aug (i := 3) sc_Search_learn.nd rfl (Or.inl rfl) pe_int ip_sub)))))))
      (pss_cons (ps_set (i := 2) sc_Search_learn.nd rfl (Or.inr rfl) (pe_lc (own := [("one", 4)]) (g := gName 4) rfl sc_Search_learn.nd (pi_listK (K := K) rfl (pv 2)) (blkOk_by (by kernel_rfl)) (fun _ _ _ _ _ => (pg_name (i := 4) sc_Search_learn.nd rfl (Or.inl rfl))) (fun _ _ _ _ _ => (pts_one (pt_cmpR op_gt (pe_dget hu (pe_fld2 cl_Search no_Search_level (pv 0)) (pe_callB call_abs (by rfl) mg_abs bt_abs (pa_cons (pv 4) pa_nil)) (fun _ _ => rfl)) pe_int (nomark _)))) (fun _ _ _ _ _ => (pv 4))))
      (pss_cons (ps_set (i := 6) sc_Search_learn.nd rfl (Or.inl rfl) (pe_callB cr_sorted2 (by rfl) mg_sorted bt_sorted (pa_cons (pe_lc (own := [("one", 4)]) (g := gName 4) (tt := tYes) rfl sc_Search_learn.nd (pi_listK (K := K) rfl (pv 2)) (blkOk_by (by kernel_rfl)) (fun _ _ _ _ _ => (pg_name (i := 4) sc_Search_learn.nd rfl (Or.inl rfl))) (fun _ _ _ _ _ => pts_nil) (fun _ _ _ _ _ => (pe_dget hu (pe_fld2 cl_Search no_Search_level (pv 0)) (pe_callB call_abs (by rfl) mg_abs bt_abs (pa_cons (pv 4) pa_nil)) (fun _ _ => rfl)))) pa_nil)))
      (pss_one (ps_ret (pe_tup (pa_cons (pe_callTy call_tuple2 (by rfl) mg_tuple bt_tuple (pa_cons (pe_callB cr_sorted2 (by rfl) mg_sorted bt_sorted (pa_cons (pv 2) pa_nil)) pa_nil)) (pa_cons (pe_ifExp (pt_cmpR op_gt (pe_callB call_len2 (by rfl) mg_len bt_len (pa_cons (pv 6) pa_nil)) pe_int (nomark _)) (pe_ix ix_list2 (pv 6) (pe_un un_neg pe_int) (fun _ _ => rfl)) pe_int) pa_nil)))))))))), ?_⟩
  refine ⟨_, rfl, _, _, _, _, rfl, G.ins, rfl, A.k, _, rfl, .inl G.hk, _, rfl, _, _, _, _, rfl, G.ins, rfl, c.1, _, by rw [hks]; rfl, .inr hc, fun fa hfa => ⟨by show 2 ≤ sizeLine; decide, fun t ht => ?_⟩⟩
  refine ⟨t, _, rfl, SqT.of upd_same, rfl, _, _, rfl, _, _, rfl, rfl, ?_⟩
  have g1 : Same H (upd H fa (.lst (c.2.map V.int))) := Same.new hfa
  have g2 := g1.trans (Same.new (o := .tup [.int (s.mks.map fun m => V.int (m : Nat)).length, .ref fa]) ht)
  have hf2 : upd (upd H fa (.lst (c.2.map V.int))) t (.tup [.int (s.mks.map fun m => V.int (m : Nat)).length, .ref fa]) fa = some (.lst (c.2.map V.int)) := Same.new ht _ _ upd_same
  have G2 := G.grow g2
  refine ⟨_, rfl, _, _, _, _, rfl, G2.ins, rfl, A.t, _, rfl, .inl G2.ht, _, _, rfl, rfl, ?_⟩
  refine ⟨fun m σ H2 => ∃ found pl x4 x5 x6, σ = [some (.ref p), some (.int s.mks.length), some (.ref fa), some (.int pl), x4, x5, x6] ∧ Same H H2 ∧ H2 fa = some (.lst (found.map V.int)) ∧ FI s found pl ∧ m = (pl + 1).toNat,
    ⟨_, c.2, (s.tr.length : Int) - 1, none, none, none, by rw [List.length_map, List.length_map]; rfl, g2, hf2, .start I hk hmk, rfl⟩, ?_⟩
  rintro m σ H2 ⟨found, pl, x4, x5, x6, rfl, s2, hf, F, rfl⟩
  have flen : found.length ≤ 100 := by
    have h1 := List.Nodup.length_le_of_subset (F.nd) (l₂ := s.tr.map fun l => -l) fun y hy => by
      obtain ⟨i, _, hi⟩ := F.pos y hy
      exact List.mem_map.mpr ⟨-y, List.mem_of_getElem? hi, by omega⟩
    rw [List.length_map] at h1
    omega
  have fin : ∀ y ∈ found, -y ∈ s.tr := fun y hy => by
    obtain ⟨i, _, hi⟩ := F.pos y hy
    exact List.mem_of_getElem? hi
  have G3 := G.grow s2
  refine ⟨_, rfl, fa, rfl, ⟨_, SqL.of hf⟩, ?_⟩
  refine lcV found _ (wkL found V.int) yName (fun y => decide (s.lv (ab y) = s.mks.length)) V.int (by omega) (by intro _; rfl) (fun H h => SqL.of (h _ _ hf)) ?_ ?_ ?_
  · intro y hy H3 s3 Qb q
    have G4 := G3.grow s3
    refine ⟨_, rfl, _, _, _, _, rfl, G4.ins, rfl, _, rfl, y, rfl, A.v, _, rfl, G4.gLev (fin y hy), _, rfl, rfl, _, rfl, ?_⟩
    rw [dec_int]
    exact q _ (Same.refl _)
  · intro y hy H3 _ s3 Qe q
    exact ⟨_, rfl, q _ (Same.refl _)⟩
  · intro D H3 _ s3 h3
    have G4 := G3.grow s3
    have hf3 := s3 _ _ hf
    have s13 := s2.trans s3
    refine ⟨D, _, rfl, .inl h3, _, _, rfl, rfl, _, rfl, ?_⟩
    rw [List.length_map]
    refine ite2 (fun h2 => ?_) (fun h2 => ?_)
    · -- one step more
      have h2 : 2 ≤ (found.filter fun y => decide (s.lv (ab y) = s.mks.length)).length := by have := of_decide_eq_true h2; omega
      refine ⟨_, fun _ _ h => h, ?_⟩
      refine ⟨fun m σ H4 => ∃ p2 y4, σ = [some (.ref p), some (.int s.mks.length), some (.ref fa), some (.int p2), y4, x5, x6] ∧ Same H H4 ∧ H4 fa = some (.lst (found.map V.int)) ∧ FI s found p2 ∧ p2 ≤ pl ∧ m = (p2 + 1).toNat, ⟨_, pl, _, rfl, s13, hf3, F, Int.le_refl _, rfl⟩, ?_⟩
      rintro m σ H4 ⟨p2, y4, rfl, s4, hf4, F4, hp2, rfl⟩
      have h0 := F4.nonneg
      have hlt := F4.plt
      obtain ⟨n, rfl⟩ : ∃ n : Nat, p2 = n := ⟨p2.toNat, (Int.toNat_of_nonneg h0).symm⟩
      obtain ⟨l, hl⟩ : ∃ l, s.tr[n]? = some l := ⟨_, List.getElem?_eq_getElem (by omega)⟩
      have hlm : l ∈ s.tr := List.mem_of_getElem? hl
      have hat : atI (s.tr.map V.int) (n : Int) = some (.int l) := atI_nat (by rw [List.getElem?_map, hl]; rfl)
      have G5 := G.grow s4
      refine ⟨_, rfl, _, _, _, _, rfl, G5.ins, rfl, _, rfl, A.t, _, _, _, rfl, rfl, G5.ht, hat, _, _, rfl, rfl, _, rfl, 0 - l, fa, found, rfl, rfl, .inl hf4, _, rfl, ?_⟩
      rw [Int.zero_sub]
      by_cases hin : -l ∈ found
      · rw [decide_eq_true hin]
        refine iteF ?_
        refine ⟨_, rfl, _, _, _, _, rfl, G5.ins, rfl, _, rfl, A.t, _, _, _, rfl, rfl, G5.ht, hat, ?_⟩
        obtain ⟨jx, e1, e2, e3⟩ := erase_ix hin
        refine ⟨_, rfl, .inl ⟨rfl, _, SqL.of hf4⟩, _, rfl, _, _, rfl, rfl, fa, found, -l, jx, rfl, by rw [← Int.zero_sub], hf4, e1, e2, ?_⟩
        rw [e3]
        obtain ⟨r, r1, r2, r3⟩ := F4.step I hmk hl hin h2
        have s5 : Same H (upd H4 fa (.lst ((found.erase (-l)).map V.int))) := Same.mut s4 hfa
        have hf5 : upd H4 fa (.lst ((found.erase (-l)).map V.int)) fa = some (.lst ((found.erase (-l)).map V.int)) := upd_same
        generalize upd H4 fa (.lst ((found.erase (-l)).map V.int)) = H5 at s5 hf5
        have G6 := G.grow s5
        have hr := G6.cls r r2
        have hrl : r.2.length ≤ 100 := Nat.le_trans (isCl_len I.lo0 (I.cl r r2)) (by have := I.hi; omega)
        have gR := G6.gRsn hlm
        rw [r1] at gR
        refine ⟨_, rfl, .inl ⟨rfl, _, SqL.of hf5⟩, _, rfl, _, _, _, _, rfl, G6.ins, rfl, _, rfl, l, rfl, A.r, _, rfl, gR, r.1, rfl, ⟨_, SqT.of hr⟩, ?_⟩
        refine lcV r.2 _ (wkT r.2 V.int) yName (fun y => decide (y ≠ l) && decide (y ∉ found.erase (-l))) V.int (by omega) (by intro _; rfl) (fun H h => SqT.of (h _ _ hr)) ?_ ?_ ?_
        · intro y hy H6 s6 Qb q
          refine ⟨_, rfl, _, rfl, rfl, _, rfl, ?_⟩
          rw [dec_int]
          have q := q _ (Same.refl _)
          by_cases ey : y = l
          · rw [decide_eq_false (fun z => z ey), Bool.false_and] at q
            rw [decide_eq_true ey]
            exact iteF q
          · rw [decide_eq_true ey, Bool.true_and] at q
            rw [decide_eq_false ey]
            refine iteT ⟨_, rfl, _, rfl, y, fa, _, rfl, rfl, .inl (s6 _ _ hf5), _, rfl, ?_⟩
            by_cases e6 : y ∈ found.erase (-l)
            · rw [decide_eq_false (fun z => z e6)] at q
              rw [decide_eq_true e6]; exact q
            · rw [decide_eq_true e6] at q
              rw [decide_eq_false e6]; exact q
        · intro y hy H6 _ s6 Qe q
          exact ⟨_, rfl, q _ (Same.refl _)⟩
        · intro D6 H6 _ s6 h6
          have l1 : (found.erase (-l)).length ≤ 100 := Nat.le_trans List.length_erase_le flen
          have l2 := List.length_filter_le (fun y => decide (y ≠ l) && decide (y ∉ found.erase (-l))) r.2
          refine ⟨fa, D6, _, _, rfl, rfl, s6 _ _ hf5, h6, sz_le (by rw [List.length_map, List.length_map]; omega), ?_⟩
          refine ⟨_, rfl, _, _, rfl, rfl, ?_⟩
          refine ⟨((n : Int) - 1 + 1).toNat, by omega, resolved found r.2 l, (n : Int) - 1, _, _, _, rfl, Same.mut (s5.trans s6) hfa, ?_, r3, rfl⟩
          unfold resolved
          rw [List.map_append]
          exact upd_same
      · rw [decide_eq_false hin]
        refine iteT ⟨_, fun _ _ h => h, ?_⟩
        refine ⟨_, rfl, _, _, rfl, rfl, ?_⟩
        exact ⟨((n : Int) - 1 + 1).toNat, by omega, (n : Int) - 1, _, rfl, s4, hf4, F4.down hl hin, by omega, rfl⟩
    · -- the clause
      have h2 : (found.filter fun y => decide (s.lv (ab y) = s.mks.length)).length ≤ 1 := by
        have h3 : ¬ (1 : Int) < (found.filter fun y => decide (s.lv (ab y) = s.mks.length)).length := fun z => h2 (decide_eq_true z)
        omega
      refine ⟨_, rfl, fa, rfl, ⟨_, SqL.of hf3⟩, ?_⟩
      refine lcV found _ (wkL found V.int) yName (fun y => decide (0 < s.lv (ab y))) V.int (by omega) (by intro _; rfl) (fun H h => SqL.of (h _ _ hf3)) ?_ ?_ ?_
      · intro y hy H4 s4 Qb q
        have G5 := G4.grow s4
        exact ⟨_, rfl, _, _, _, _, rfl, G5.ins, rfl, _, rfl, y, rfl, A.v, _, rfl, G5.gLev (fin y hy), _, _, rfl, rfl, _, rfl, q _ (Same.refl _)⟩
      · intro y hy H4 _ s4 Qe q
        exact ⟨_, rfl, q _ (Same.refl _)⟩
      · intro D4 H4 _ s4 h4
        have h4 : H4 D4 = some (.lst ((kept s found).map V.int)) := h4
        have G5 := G4.grow s4
        have klen : (kept s found).length ≤ 100 := Nat.le_trans (List.length_filter_le _ _) flen
        refine ⟨_, rfl, D4, rfl, ⟨_, SqL.of h4⟩, ?_⟩
        refine lcV0 (kept s found) _ (wkL (kept s found) V.int) yName (fun y => .int (s.lv (ab y))) (by omega) (by intro _; rfl) (fun H h => SqL.of (h _ _ h4)) ?_ ?_
        · intro y hy H5 s5 Qe q
          have G6 := G5.grow s5
          exact ⟨_, rfl, _, _, _, _, rfl, G6.ins, rfl, _, rfl, y, rfl, A.v, _, rfl, G6.gLev (fin y (List.mem_filter.mp hy).1), q _ (Same.refl _)⟩
        · intro D5 H5 _ s5 h5
          have e5 : ((kept s found).map fun y => V.int (s.lv (ab y))) = ((kept s found).map fun y => s.lv (ab y)).map V.int := by rw [List.map_map]; rfl
          rw [e5] at h5
          refine ⟨D5, _, rfl, h5, fun lp hlp => ?_⟩
          have s6 := Same.new (o := .lst ((srt ((kept s found).map fun y => s.lv (ab y))).map V.int)) hlp
          refine ⟨_, rfl, D4, _, rfl, s6 _ _ (s5 _ _ h4), fun sp hsp => ?_⟩
          have s7 := Same.new (o := .lst ((srt (kept s found)).map V.int)) hsp
          refine ⟨sp, _, rfl, upd_same, fun tp htp => ?_⟩
          have s8 := Same.new (o := .tup ((srt (kept s found)).map V.int)) htp
          have hlp8 := s8 _ _ (s7 _ _ (upd_same (H := H5) (a := lp) (o := .lst ((srt ((kept s found).map fun y => s.lv (ab y))).map V.int))))
          have sAll : Same H _ := s13.trans (s4.trans (s5.trans (s6.trans (s7.trans s8))))
          obtain ⟨j, m, ok, j1, j2⟩ := learn_ok I hmk F h2
          refine ⟨_, rfl, lp, _, rfl, .inl hlp8, _, _, rfl, rfl, _, rfl, ?_⟩
          have el : (((srt ((kept s found).map fun y => s.lv (ab y))).map V.int).length) = (lvls s found).length := by rw [List.length_map]; rfl
          rw [el]
          refine ite2 (fun h => ?_) (fun h => ?_)
          · have hl1 : 1 < (lvls s found).length := by have := of_decide_eq_true h; omega
            have hat : atI ((srt ((kept s found).map fun y => s.lv (ab y))).map V.int) (-2) = some (.int (j : Nat)) := by
              unfold atI
              have ei : ixN ((srt ((kept s found).map fun y => s.lv (ab y))).map V.int).length (-2) = some ((lvls s found).length - 2) := by
                unfold ixN
                rw [el, if_neg (by omega), if_pos (by omega)]
                congr 1
                omega
              rw [ei]
              show ((lvls s found).map V.int)[(lvls s found).length - 2]? = _
              rw [List.getElem?_map, j2 hl1]; rfl
            refine ⟨_, rfl, _, rfl, lp, _, _, _, rfl, rfl, hlp8, hat, by show 2 ≤ sizeLine; decide, fun t2 ht2 => ?_⟩
            exact k _ t2 tp _ j m (sAll.trans (Same.new ht2)) upd_same (Same.new ht2 _ _ upd_same) ok
          · have hl1 : (lvls s found).length ≤ 1 := by
              have h3 : ¬ (1 : Int) < (lvls s found).length := fun z => h (decide_eq_true z)
              omega
            have hj0 := j1 hl1
            subst hj0
            refine ⟨by show 2 ≤ sizeLine; decide, fun t2 ht2 => ?_⟩
            exact k _ t2 tp _ 0 m (sAll.trans (Same.new ht2)) upd_same (Same.new ht2 _ _ upd_same) ok
end
end Nt
set_option maxRecDepth 100000
set_option maxHeartbeats 4000000
/-! NtK: sorted(d, key=abs), d a dict of ints. -/
namespace Nt
open PySem PySem.Spec PyProof.Rows L2 PySem.W
theorem ints_isE : ∀ {vs : List Value} {ns : List Int}, IntsAre vs ns → EachIs (fun (v : Value) (n : Int) => ∃ t, v = .int n t) vs ns
  | _, _, .nil => .nil
  | _, _, .cons n t h => .cons ⟨t, rfl⟩ (ints_isE h)
theorem vals_ofE : ∀ {vs : List Value} {ns : List Int}, EachIs (fun (v : Value) (n : Int) => ∃ t, v = .int n t) vs ns → Vals (ns.map V.int) vs
  | _, _, .nil => .nil
  | _, _, .cons h r => .cons h (vals_ofE r)
section
variable {X : Cx}
/-- the call itself, its arguments there -/
theorem sortedAbs_run (hcalm : X.calm = true) (hu : X.A.units + 64 < cLine) {pins : List (Addr × Obj)} {s : Shared} {σ : L2.St} {H : Hp} {a : Addr} {kvs : List (Key × V)} {ks : List Int} {Q : VK} (I : L2.Inv X pins σ H s) (hd : H a = some (.dK kvs)) (hks : kvs.map (·.1) = ks.map Sum.inl) (h64 : ks.length ≤ 1000)
    (q : ∀ (ys : List Int) (p : Addr), ys.Perm ks → (ys.map ab).Pairwise (· ≤ ·) → H p = none → Q (.ref p) (upd H p (.lst (ys.map V.int)))) :
    wpAny (model X.prog X.w) X.A (call (.builtin "sorted") [.ref a] [(Str.ofString "key", .builtin "abs")]) (EP X pins σ Q) X.xe s := by
  obtain ⟨z, lo, vs, rel, dd⟩ := dk_rd I.hok (.inl hd)
  obtain ⟨ep, hat⟩ := dd.dictAt
  have hkeys : vs.map (·.1) = ks.map Sum.inl := rel.keys.symm.trans hks
  have hl : vs.length = ks.length := by
    have e := congrArg List.length hkeys
    rw [List.length_map, List.length_map] at e
    exact e
  have h16 : vs.length ≤ sizeLine := by rw [hl, sizeLine_eq]; omega
  refine call_function_entry_kw kind_sorted plain_sorted entry_sorted (ksk_s1 _ _) ?_
  unfold Builtin.«sorted»
  refine wpAny_bind (m := checkCount "sorted" 1 1 _) (wpAny_pure ?_)
  refine wpAny_bind (kdu_collect (A := X.A.in1) (kdl_dict (knd := mixKind X.prog X.w) (kvs := vs) (ep := ep) lo) (I.ok.hd hcalm) hat h16 fun h' tk acc hk hacc => ?_)
  have hal : acc.toList.length = ks.length := by rw [Array.length_toList, hacc.1, hl]
  have hS : IntsAre acc.toList ks := ints_each hal fun j v e => by
    obtain ⟨k, x, e1, e2⟩ := hacc.2 j v (by rw [← Array.getElem?_toList]; exact e)
    have e3 : (vs.map (·.1))[j]? = some k := by rw [List.getElem?_map, e1]; rfl
    rw [hkeys, List.getElem?_map] at e3
    cases e4 : ks[j]? with
    | none => rw [e4] at e3; cases e3
    | some y =>
      rw [e4] at e3
      obtain rfl : Sum.inl y = k := Option.some.inj e3
      rcases keyIs_shape (show keyIs (Sum.inl y) v = true from e2) with ⟨i, t, ek, ev⟩ | ⟨z, t, ek, ev⟩
      · cases ek; exact ⟨y, t, rfl, ev⟩
      · cases ek
  have I1 : L2.Inv X pins σ H { s with heap := h', toks := tk } := I.kept hk
  refine wpAny_bind (wpAny_newList ?_ (by rw [hal, sizeLine_eq]; omega))
  have hoL : (h'.push (seqObj "list" acc.toList.toArray 0)).get? h'.objs.size = some (seqObj "list" acc.toList.toArray 0) := Heap.get?_push_size _ rfl
  show wpAny _ _ _ _ _ { s with heap := h'.push (seqObj "list" acc.toList.toArray 0), toks := tk }
  have eE := ints_isE hS
  refine wpAny_bind (wpAny_holding (wpAny_call_entry_kw slot_list_sort ⟨_, hoL, rfl⟩ entry_list_sort ?_ (ksk_l1 _ _)))
  rw [ksk_t4]
  refine keyH_tree (kz := ks.map fun n => PyData.int (ab n)) (s := { s with heap := h'.push (seqObj "list" acc.toList.toArray 0), toks := tk }) hoL (by rw [List.length_map]; exact hal.symm) (by rw [hal, sizeLine_eq]; omega) (AllAlike.of fun _ _ => by simp [alike]) (Sortable.others fun b => ⟨by simp, by simp⟩)
    (bound_map (A := X.A.in1.in1) fun x _ => ?_)
    (keyH_turns (s := { s with heap := h'.push (seqObj "list" acc.toList.toArray 0), toks := tk }) (k := fun n => PyData.int (ab n)) eE fun v x hR hx h t2 kp => ?_) fun h2 t2 out c kp hD ko => ⟨_, rfl, ?_⟩
  · show X.A.units + 2 + (PyData.int (ab x)).depth < cLine
    have e : (PyData.int (ab x)).depth = 0 := by simp [PyData.depth]
    rw [e]; omega
  · obtain ⟨t, rfl⟩ := hR
    exact call_abs_int fun u t3 => ⟨_, t3, rfl, fun b o e => e, .int (ab x) u⟩
  · have eo := keyedOut_each (R := fun (v : Value) (n : Int) => ∃ t, v = .int n t) (fun n => PyData.int (ab n)) ko eE
    rw [dataLe_int ab] at eo
    have hp : (ks.mergeSort fun a b => decide (ab a ≤ ab b)).Perm ks := List.mergeSort_perm _ _
    have ho : ((ks.mergeSort fun a b => decide (ab a ≤ ab b)).map ab).Pairwise (· ≤ ·) := by
      rw [List.pairwise_map]
      have h := List.pairwise_mergeSort (le := fun a b : Int => decide (ab a ≤ ab b)) (fun a b c h1 h2 => by
        have h1 := of_decide_eq_true h1
        have h2 := of_decide_eq_true h2
        exact decide_eq_true (Int.le_trans h1 h2)) (fun a b => by
        rcases Int.le_total (ab a) (ab b) with h | h
        · simp [h]
        · simp [h]) ks
      exact h.imp fun h => of_decide_eq_true h
    have hlen : ((ks.mergeSort fun a b => decide (ab a ≤ ab b)).map V.int).length ≤ sizeLine := by
      rw [List.length_map, hp.length_eq, sizeLine_eq]; omega
    refine wpAny_pure ⟨_, rfl, .ref h'.objs.size, upd H h'.objs.size (.lst ((ks.mergeSort fun a b => decide (ab a ≤ ab b)).map V.int)), I1.laid (t' := t2) (fun b u e => ?_) (Nat.le_refl _)
      (show ObjOk X.prog X.w _ _ _ (.lst ((ks.mergeSort fun a b => decide (ab a ≤ ab b)).map V.int)) from ⟨hlen, out, c, vals_ofE eo, hD⟩), rfl, q _ _ hp ho (I1.hok.fresh (Nat.le_refl _))⟩
    exact kp b u (Nat.ne_of_lt (Heap.lt_size e)) (Heap.get?_push_of_some _ e)
/-- sorted(d, key=abs) -/
def tSAbs (td : TE) : TE := fun σ H Q => td σ H fun v H1 => ∃ (a : Addr) (kvs : List (Key × V)) (ks : List Int), v = .ref a ∧ H1 a = some (.dK kvs) ∧ kvs.map (·.1) = ks.map Sum.inl ∧ ks.length ≤ 1000 ∧
  ∀ (ys : List Int) (p : Addr), ys.Perm ks → (ys.map ab).Pairwise (· ≤ ·) → H1 p = none → Q (.ref p) (upd H1 p (.lst (ys.map V.int)))
theorem pe_sortedAbs (hcalm : X.calm = true) (hu : X.A.units + 64 < cLine) {e : Expr} {td : TE} {p p2 p3 pos : Pos} (hg : Gl X "sorted") (hm : X.mg "sorted" = none) (hga : Gl X "abs") (hma : X.mg "abs" = none) (he : PE X e td)
    (h1 : backTo pos (starEach (e :: []) X.env) = (false, eval e X.env) :: backTo pos (starEach [] X.env) := by rfl) (h2 : (backTo pos (starEach (e :: []) X.env)).any (·.1) = false := by rfl)
    (hst : starEach [e] X.env = (false, eval e X.env) :: starEach [] X.env := by rfl) :
    PE X (.Call (.Name "sorted" p) [e] [⟨some "key", .Name "abs" p2, p3⟩] pos) (tSAbs td) := by
  refine ⟨fun pins s σ H Q I h => ?_⟩
  refine wpAny_Call_Name_kw (ld_blt I hg hm bt_sorted ?_ (by decide) (by decide))
  have ha := (pa_cons he pa_nil hst).run pos pins s σ H (fun vs H1 => match vs with
    | [v] => ∃ (a : Addr) (kvs : List (Key × V)) (ks : List Int), v = .ref a ∧ H1 a = some (.dK kvs) ∧ kvs.map (·.1) = ks.map Sum.inl ∧ ks.length ≤ 1000 ∧
      ∀ (ys : List Int) (p : Addr), ys.Perm ks → (ys.map ab).Pairwise (· ≤ ·) → H1 p = none → Q (.ref p) (upd H1 p (.lst (ys.map V.int)))
    | _ => False) I h
  refine PyProof.Rows.callWith_kw (thn ha fun us s1 ⟨vs, H1, I1, r1, q1⟩ => ?_) h1 h2 rfl rfl
  show wpAny _ _ (evalAll ((do let v ← eval (.Name "abs" p2) X.env; standAt pos; pure v) :: [])) _ _ s1
  refine wpAny_evalAll_cons (wpAny_bind (ld_blt I1 hga hma bt_abs (wpAny_bind (wpAny_standAt (wpAny_pure ?_))) (by decide) (by decide)))
  refine wpAny_evalAll_nil ?_
  cases vs with
  | nil => exact False.elim q1
  | cons v r =>
    cases r with
    | cons _ _ => exact False.elim q1
    | nil =>
      obtain ⟨a, kvs, ks, rfl, ha, hk, hl, q⟩ := q1
      obtain rfl := Vals.ref1 r1
      exact sortedAbs_run hcalm hu I1 ha hk hl q
end
end Nt
set_option maxRecDepth 100000
set_option maxHeartbeats 1000000
/-! NtV5: the search: mend, solve. -/
namespace Nt
open PySem PySem.Spec PyProof.Rows L2
/-- a frame that knows a tuple -/
theorem SAt.know {K : PySem.W.Frag} {H0 H : Hp} {p : Addr} {A : Ad} {s : SS} {S : List Int} {B : List (List Int)} (h : SAt K H0 H p A s S B) {x : Addr} {xs : List V} (hx : H x = some (.tup xs)) : SAt K (upd H0 x (.tup xs)) H p A s S B := by
  have hB := h.by_
  obtain ⟨kv, hv1, hv2, hv3⟩ := h.hv
  obtain ⟨kr, hr1, hr2, hr3⟩ := h.hr
  have f := h.fx
  have n0 : ∀ y o1, H y = some o1 → (∀ zs, o1 ≠ .tup zs) → H0 y = none → upd H0 x (.tup xs) y = none := fun y o1 h1 h2 h3 => by rw [upd_ne (ne_of h1 hx (h2 xs))]; exact h3
  refine ⟨⟨n0 _ _ h.ins (by intro _ z; cases z) f.fp, n0 _ _ h.ha (by intro _ z; cases z) f.fa, n0 _ _ hB.at_ (by intro _ z; cases z) f.fb, n0 _ _ h.hu (by intro _ z; cases z) f.fu, n0 _ _ hv1 (by intro _ z; cases z) f.fv, n0 _ _ hr1 (by intro _ z; cases z) f.fr, n0 _ _ h.ht (by intro _ z; cases z) f.ft, n0 _ _ h.hk (by intro _ z; cases z) f.fk, n0 _ _ h.he (by intro _ z; cases z) f.fe, f.n_at, f.n_ak, f.n_ae, f.n_tk, f.n_te, f.n_ke, f.n_bu, f.n_bv, f.n_br, f.n_uv, f.n_ur, f.n_vr⟩,
    fun y o1 e => ?_, h.cls, h.ins, h.ha, ?_, h.hu, h.hv, h.hr, h.ht, h.hk, h.he⟩
  · by_cases e2 : y = x
    · subst e2; rw [upd_same] at e; rw [hx]; exact e
    · rw [upd_ne e2] at e; exact h.same _ _ e
  · exact ⟨hB.at_, fun l => (hB.get l).imp id fun ⟨q, h1, h2, h3, h4⟩ => ⟨q, h1, h2, n0 _ _ h2 (by intro _ z; cases z) h3, h4⟩, hB.inj, hB.len⟩
def sp_Search_mend (K : PySem.W.Frag) : Sp := fun vs H Q _ => ∃ (p : Addr) (H0 : Hp) (A : Ad) (s : SS) (k : Cl), vs = [.ref p] ∧ SAt1 K H0 H p A s ∧ Iv s ∧ s.ks = some k ∧ s.mks ≠ [] ∧ s.cl.length < 100000 ∧ s.ln.length < 100000 ∧
  ∀ H' A' s' c, SAt1 K H0 H' p A' s' → MendOk s s' c → Q .non H'
theorem len_Search_mend (K : PySem.W.Frag) : ∀ vs H Q E, sp_Search_mend K vs H Q E → vs.length = 1 := by
  rintro vs H Q E ⟨p, H0, A, s, k, rfl, _⟩; rfl
/-- what solve gives -/
structure SolvedOk (c0 : List Cl) (s s' : SS) : Prop where
  si : SI c0 s'
  many : s'.many = s.many
  up : s'.up = s.up
def sp_Search_solve (K : PySem.W.Frag) : Sp := fun vs H Q _ => ∃ (p : Addr) (H0 : Hp) (A : Ad) (s : SS) (c0 : List Cl), vs = [.ref p] ∧ SAt1 K H0 H p A s ∧ SI c0 s ∧ s.many ≤ 16 ∧ c0.length ≤ 30000 ∧
  ((∀ H' A' s', SAt1 K H0 H' p A' s' → SolvedOk c0 s s' → Steps (c0.map (·.2)) (s'.ln.map (·.2) ++ [[]]) → Q .non H') ∧
   ∀ H' A' s' q ys, SAt1 K H0 H' p A' s' → SolvedOk c0 s s' → H' q = some (.lst (ys.map V.int)) → H0 q = none → isVal s.many ys = true → (∀ c ∈ c0, ∃ l ∈ c.2, l ∈ ys) → Q (.ref q) H')
theorem len_Search_solve (K : PySem.W.Frag) : ∀ vs H Q E, sp_Search_solve K vs H Q E → vs.length = 1 := by
  rintro vs H Q E ⟨p, H0, A, s, c0, rfl, _⟩; rfl
section
variable {P : Program} {w : World} {K : PySem.W.Frag} {mg : Str → Option Value} {base : Heap}
theorem sc_Search_mend : FnScope ["self", "clause", "level"] ["self"] (defScope s_Search_mend) := ⟨rfl, rfl, rfl, by decide +kernel, rfl, by decide +kernel, by decide +kernel⟩
theorem ok_Search_mend (T : Tx K mg) (C_Search_learn : CalF P w K mg base ("Search", some "learn") 1 ["self"] (sp_Search_learn K)) (C_Search_back_to : CalF P w K mg base ("Search", some "back_to") 1 ["self", "level"] (sp_Search_back_to K)) (C_Search_put : CalF P w K mg base ("Search", some "put") 3 ["self", "clause"] (sp_Search_put K)) : CalF P w K mg base ("Search", some "mend") 4 ["self"] (sp_Search_mend K) := by
  obtain ⟨fd_Search_learn, b_Search_learn, G_Search_learn, kp_Search_learn⟩ := C_Search_learn
  obtain ⟨fd_Search_back_to, b_Search_back_to, G_Search_back_to, kp_Search_back_to⟩ := C_Search_back_to
  obtain ⟨fd_Search_put, b_Search_put, G_Search_put, kp_Search_put⟩ := C_Search_put
  have mt_Search_learn : Meth K (He.ga K "Search") "learn" (He.ma K (He.ga K "Search") "learn") := T.meth 99
  have mt_Search_back_to : Meth K (He.ga K "Search") "back_to" (He.ma K (He.ga K "Search") "back_to") := T.meth 98
  have mt_Search_put : Meth K (He.ga K "Search") "put" (He.ma K (He.ga K "Search") "put") := T.meth 92
  have cl_Search : Cls K (He.ga K "Search") := T.cls 89
  have no_Search_learnt : NoAttr K (He.ga K "Search") "learnt" := T.noat 107
  refine calF T (d := d_Search_mend) 23 rfl sc_Search_mend rfl rfl (fun _ _ _ _ _ _ us hl => match us, hl with | [_], _ => rfl) (len_Search_mend K) ?_
  intro cdv A outer s H vs Q E hr h
  have hu := hu_of hr
  obtain ⟨p, H0, A, s, c, rfl, G, I, hk, hm, hcl, hln, k⟩ := h
  refine ⟨_, (pss_cons (ps_asg (pe_meth0 (pv 0) cl_Search mt_Search_learn G_Search_learn (hr.mono (by decide)) b_Search_learn .nil pass0) (pg_tup rfl (pgs_cons (pg_name (i := 1) sc_Search_mend.nd rfl (Or.inl rfl)) (pgs_cons (pg_name (i := 2) sc_Search_mend.nd rfl (Or.inl rfl)) pgs_nil))))
      (pss_cons (ps_expr (pe_bm PySem.F.plainAttrs_list PySem.F.slot_list_append PySem.F.type_list_append mt_append (pe_fld2 cl_Search no_Search_learnt (pv 0)) (pa_cons (pv 1) pa_nil)))
      (pss_cons (ps_expr (pe_meth (pv 0) cl_Search mt_Search_back_to G_Search_back_to (hr.mono (by decide)) b_Search_back_to .nil pass0 (pa_cons (pv 2) pa_nil)))
      (pss_one (ps_expr (pe_meth (pv 0) cl_Search mt_Search_put G_Search_put (hr.mono (by decide)) b_Search_put .nil pass0 (pa_cons (pv 1) pa_nil))))))), ?_⟩
  refine ⟨_, rfl, p, _, _, rfl, G.ins, rfl, p, H0, A, s, c, rfl, G, I, hk, hm, fun H1 t q c' j m s1 ht hq L => ?_⟩
  refine ⟨t, _, rfl, SqT.of ht, rfl, _, _, rfl, _, _, rfl, rfl, ?_⟩
  have G1 := G.grow s1
  refine ⟨_, rfl, _, _, _, _, rfl, G1.ins, rfl, .inl ⟨rfl, _, SqL.of G1.he⟩, _, rfl, A.e, _, _, rfl, rfl, G1.he, by rw [List.length_map]; exact sz_lt hln, ?_⟩
  have G2 := G1.updE (s.ln ++ [(q, c')])
  have e2 : (s.ln ++ [(q, c')]).map rf = s.ln.map rf ++ [.ref q] := by rw [List.map_append]; rfl
  rw [e2] at G2
  have hq2 : upd H1 A.e (.lst (s.ln.map rf ++ [.ref q])) q = some (.tup (c'.map V.int)) := by
    rw [upd_ne (ne_of hq G1.he (by intro z; cases z))]; exact hq
  have I1 : Iv { s with ln := s.ln ++ [(q, c')] } := ⟨I.lo0, I.hi, I.cl, I.inr, I.nd, I.mkp, I.mklt, I.lev, I.rsn, I.rin, I.quiet, I.ks, I.at_, I.atm, I.low1, I.low⟩
  generalize upd H1 A.e (.lst (s.ln.map rf ++ [.ref q])) = H2 at G2 hq2
  have L1 : LearnOk { s with ln := s.ln ++ [(q, c')] } c' j m := ⟨L.cl, L.rup, L.at_, L.open_, L.quiet⟩
  have hH0 : Same H0 (upd H0 q (.tup (c'.map V.int))) := fun y o e => by
    by_cases e2 : y = q
    · subst e2
      rw [upd_same]
      rw [G.grow s1 |>.same _ _ e] at hq
      exact hq.symm
    · rw [upd_ne e2]; exact e
  have G2k := G2.know hq2
  refine ⟨_, rfl, p, _, _, rfl, G2.ins, rfl, _, rfl, p, _, A, _, j, m, rfl, G2k, I1, L.at_, fun H3 A3 G3 => ?_⟩
  obtain ⟨p1, p2⟩ := mend_pre (c := (q, c')) I L
  refine ⟨_, rfl, p, _, _, rfl, G3.ins, rfl, _, rfl, p, _, A3, _, (q, c'), rfl, G3, p1, G3.same _ _ upd_same, hcl, fun H4 A4 G4 => ?_⟩
  exact k H4 A4 (mendF s (q, c') j m) (q, c') (G4.less hH0) (mend_ok (c := (q, c')) I L)
theorem sc_Search_solve : FnScope ["self"] ["self"] (defScope s_Search_solve) := ⟨rfl, rfl, rfl, by decide +kernel, rfl, by decide +kernel, by decide +kernel⟩
theorem ok_Search_solve (T : Tx K mg) (C_Search_spread : CalF P w K mg base ("Search", some "spread") 3 ["self"] (sp_Search_spread K)) (C_Search_choose : CalF P w K mg base ("Search", some "choose") 3 ["self"] (sp_Search_choose K)) (C_Search_mend : CalF P w K mg base ("Search", some "mend") 4 ["self"] (sp_Search_mend K)) : CalF P w K mg base ("Search", some "solve") 5 ["self"] (sp_Search_solve K) := by
  have mg_sorted : mg "sorted" = none := T.free 69
  have mg_abs : mg "abs" = none := T.free 54
  have mg_len : mg "len" = none := T.free 62
  obtain ⟨fd_Search_spread, b_Search_spread, G_Search_spread, kp_Search_spread⟩ := C_Search_spread
  obtain ⟨fd_Search_choose, b_Search_choose, G_Search_choose, kp_Search_choose⟩ := C_Search_choose
  obtain ⟨fd_Search_mend, b_Search_mend, G_Search_mend, kp_Search_mend⟩ := C_Search_mend
  have mt_Search_spread : Meth K (He.ga K "Search") "spread" (He.ma K (He.ga K "Search") "spread") := T.meth 95
  have mt_Search_choose : Meth K (He.ga K "Search") "choose" (He.ma K (He.ga K "Search") "choose") := T.meth 97
  have mt_Search_mend : Meth K (He.ga K "Search") "mend" (He.ma K (He.ga K "Search") "mend") := T.meth 100
  have cl_Search : Cls K (He.ga K "Search") := T.cls 89
  have no_Search_sure : NoAttr K (He.ga K "Search") "sure" := T.noat 113
  have no_Search_clash : NoAttr K (He.ga K "Search") "clash" := T.noat 105
  have no_Search_many : NoAttr K (He.ga K "Search") "many" := T.noat 110
  have no_Search_marks : NoAttr K (He.ga K "Search") "marks" := T.noat 111
  refine calF T (d := d_Search_solve) 24 rfl sc_Search_solve rfl rfl (fun _ _ _ _ _ _ us hl => match us, hl with | [_], _ => rfl) (len_Search_solve K) ?_
  intro cdv A outer s H vs Q E hr h
  have hu := hu_of hr
  obtain ⟨p, H0, A, s, c0, rfl, G, S0, hmany, hc0, k1, k2⟩ := h
  have bound : ∀ s', SI c0 s' → s'.many = s.many → s'.ln.length + 1 ≤ 65536 ∧ s'.cl.length + 1 ≤ 95537 := fun s' S e => by
    have h1 := VW_lt S.iv
    have h2 := S.ln
    have h3 : 2 ^ s'.many.toNat ≤ 2 ^ 16 := Nat.pow_le_pow_right (by decide) (by rw [e]; omega)
    have h4 : (2 : Nat) ^ 16 = 65536 := by decide
    have h5 := congrArg List.length S.cl
    rw [List.length_append] at h5
    omega
  refine ⟨_, (pss_cons (ps_expr (pe_meth0 (pv 0) cl_Search mt_Search_spread G_Search_spread (hr.mono (by decide)) b_Search_spread .nil pass0))
      (pss_cons (ps_while PassesOwn.never (PW.pt (pw_or (pt_cmpR op_notN (pe_fld2 cl_Search no_Search_clash (pv 0)) pe_non (nomark _)) (pw_or1 (pt_cmpR op_lt (pe_callB call_lenD (by rfl) mg_len bt_len (pa_cons (pe_fld2 cl_Search no_Search_sure (pv 0)) pa_nil)) (pe_fld2 cl_Search no_Search_many (pv 0)) (nomark _))))) (pss_cons (ps_if (pt_cmpR op_isN (pe_fld2 cl_Search no_Search_clash (pv 0)) pe_non (nomark _)) (pss_one (ps_expr (pe_meth0 (pv 0) cl_Search mt_Search_choose G_Search_choose (hr.mono (by decide)) b_Search_choose .nil pass0))) (pss_one (ps_if (pt_cmpR (op_eqE hr.units) (pe_fld2 cl_Search no_Search_marks (pv 0)) (pe_lst pa_nil) (nomark _)) (pss_one (ps_ret pe_non)) (pss_one (ps_expr (pe_meth0 (pv 0) cl_Search mt_Search_mend G_Search_mend (hr.mono (by decide)) b_Search_mend .nil pass0))))))
      (pss_one (ps_expr (pe_meth0 (pv 0) cl_Search mt_Search_spread G_Search_spread (hr.mono (by decide)) b_Search_spread .nil pass0)))))
      (pss_one (ps_ret (pe_sortedAbs rfl hr.units (by rfl) mg_sorted (by rfl) mg_abs (pe_fld2 cl_Search no_Search_sure (pv 0))))))), ?_⟩
  refine ⟨_, rfl, p, _, _, rfl, G.ins, rfl, p, H0, A, s, rfl, G, S0.iv, S0.pn, by have := (bound s S0 rfl).2; omega, fun H1 s1 G1 X1 => ?_⟩
  have S1 := S0.spread X1
  refine ⟨fun n σ H2 => ∃ A2 s2, σ = [some (.ref p)] ∧ SAt1 K H0 H2 p A2 s2 ∧ SI c0 s2 ∧ s2.many = s.many ∧ s2.up = s.up ∧ (s2.ks = none → s2.at_ = s2.tr.length) ∧ n = mu s2, ⟨_, A, s1, rfl, G1, S1, X1.ext.many, X1.ext.up, X1.at_, rfl⟩, ?_⟩
  rintro n σ H2 ⟨A2, s2, rfl, G2, S2, m2, u2, at2, rfl⟩
  refine ⟨_, rfl, _, _, _, _, rfl, G2.ins, rfl, rfl, _, rfl, ?_⟩
  have I2 := S2.iv
  have after : ∀ H3 A3 s3, SAt1 K H0 H3 p A3 s3 → SI c0 s3 → SG s2 s3 → s3.cl.length ≤ 100000 ∧ ∀ H4 s4, SAt1 K H0 H4 p A3 s4 → SpreadOk s3 s4 → ∃ m', m' < mu s2 ∧ ∃ A2 s5, [some (V.ref p)] = [some (.ref p)] ∧ SAt1 K H0 H4 p A2 s5 ∧ SI c0 s5 ∧ s5.many = s.many ∧ s5.up = s.up ∧ (s5.ks = none → s5.at_ = s5.tr.length) ∧ m' = mu s5 := by
    intro H3 A3 s3 g S3 q
    refine ⟨by have := (bound s3 S3 (q.many.trans m2)).2; omega, fun H4 s4 g4 x4 => ?_⟩
    have q4 := q.spread x4
    exact ⟨_, q4.mu x4.iv, A3, s4, rfl, g4, S3.spread x4, q4.many.trans m2, q4.up.trans u2, x4.at_, rfl⟩
  cases hk : s2.ks with
  | some c =>
    refine iteT (iteT ⟨_, fun _ _ h => h, ?_⟩)
    refine ⟨_, rfl, _, _, _, _, rfl, G2.ins, rfl, rfl, _, rfl, ?_⟩
    rw [hk]
    refine iteF ?_
    refine ⟨_, rfl, _, _, _, _, rfl, G2.ins, rfl, Nat.zero_le _, fun e he => ?_⟩
    have ge := Same.new (o := .lst []) he
    have G3 := G2.grow ge
    refine ⟨A2.k, e, _, rfl, rfl, .inl ⟨G3.hk, upd_same⟩, fun v hv => ?_, _, rfl, ?_⟩
    · obtain ⟨i, _, rfl⟩ := List.mem_map.mp hv
      exact .inl ⟨_, rfl⟩
    · cases hm : s2.mks with
      | nil =>
        refine iteT ?_
        exact k1 _ A2 s2 G3 ⟨S2, m2, u2⟩ (S2.none_ hk hm)
      | cons m ms =>
        refine iteF ?_
        have hmn : s2.mks ≠ [] := by rw [hm]; intro z; cases z
        have b2 := bound s2 S2 m2
        refine ⟨_, rfl, p, _, _, rfl, G3.ins, rfl, p, H0, A2, s2, c, rfl, G3, I2, hk, hmn, by omega, by omega, fun H4 A4 s4 c4 G4 M4 => ?_⟩
        obtain ⟨S4, q4⟩ := S2.mend M4
        obtain ⟨b4, c4⟩ := after H4 A4 s4 G4 S4 q4
        exact ⟨_, rfl, p, _, _, rfl, G4.ins, rfl, p, H0, A4, s4, rfl, G4, S4.iv, S4.pn, b4, fun H5 s5 G5 X5 => c4 H5 s5 G5 X5⟩
  | none =>
    refine iteF ?_
    refine ⟨_, rfl, _, _, _, _, rfl, G2.ins, rfl, A2.u, _, rfl, G2.hu, _, rfl, _, _, _, _, rfl, G2.ins, rfl, _, _, rfl, rfl, _, rfl, ?_⟩
    rw [List.length_map]
    refine ite2 (fun h => ?_) (fun h => ?_)
    · have hlt : (s2.tr.length : Int) < s2.many := of_decide_eq_true h
      refine ⟨_, fun _ _ h => h, ?_⟩
      refine ⟨_, rfl, _, _, _, _, rfl, G2.ins, rfl, rfl, _, rfl, ?_⟩
      rw [hk]
      refine iteT ?_
      obtain ⟨n, hn⟩ := I2.opn hlt
      refine ⟨_, rfl, p, _, _, rfl, G2.ins, rfl, p, H0, A2, s2, n, rfl, G2, I2, hn, fun H4 n4 o4 l4 G4 => ?_⟩
      obtain ⟨S4, q4⟩ := S2.choose hk (at2 hk) o4 l4 (l := if s2.up = true then n4 else -n4) (by split; exact .inl rfl; exact .inr rfl)
      obtain ⟨b4, c4⟩ := after H4 A2 _ G4 S4 q4
      exact ⟨_, rfl, p, _, _, rfl, G4.ins, rfl, p, H0, A2, _, rfl, G4, S4.iv, S4.pn, b4, fun H5 s5 G5 X5 => c4 H5 s5 G5 X5⟩
    · have hge : s2.many ≤ s2.tr.length := by
        have h2 : ¬ (s2.tr.length : Int) < s2.many := fun z => h (decide_eq_true z)
        omega
      have h30 := I2.len100
      refine ⟨_, rfl, _, _, _, _, rfl, G2.ins, rfl, A2.u, _, s2.tr, rfl, G2.hu, by rw [List.map_map]; rfl, by omega, fun ys q hp ho hq => ?_⟩
      have gq := Same.new (o := .lst (ys.map V.int)) hq
      refine k2 _ A2 s2 q ys (G2.grow gq) ⟨S2, m2, u2⟩ upd_same ?_ (by rw [← m2]; exact vals_of I2 hge hp ho) fun c hc => ?_
      · exact G2.same.free hq
      · obtain ⟨l, h1, h2⟩ := S2.values hk (at2 hk) hge c hc
        exact ⟨l, h1, hp.mem_iff.mpr h2⟩
end
end Nt
set_option maxRecDepth 100000
set_option maxHeartbeats 1000000
/-! NtV6: the search: its making; solve. -/
namespace Nt
open PySem PySem.Spec PyProof.Rows L2
/-- all but the object at p stays -/
def Ke (p : Addr) (H H' : Hp) : Prop := ∀ y o, y ≠ p → H y = some o → H' y = some o
theorem Ke.refl (p : Addr) (H : Hp) : Ke p H H := fun _ _ _ h => h
theorem Ke.trans {p : Addr} {H H1 H2 : Hp} (a : Ke p H H1) (b : Ke p H1 H2) : Ke p H H2 := fun y o n h => b y o n (a y o n h)
theorem Ke.new {p x : Addr} {H : Hp} {o : HO} (h : H x = none) : Ke p H (upd H x o) := fun y u _ e => Same.new h y u e
theorem Ke.own {p : Addr} {H : Hp} {o : HO} : Ke p H (upd H p o) := fun y u n e => by rw [upd_ne n]; exact e
theorem Ke.free {p x : Addr} {H H' : Hp} (k : Ke p H H') (n : x ≠ p) (h : H' x = none) : H x = none := by
  cases e : H x with
  | none => rfl
  | some o => rw [k x o n e] at h; cases h
/-- a walk over a list or a tuple that the frame knows -/
theorem seqGoF {α : Type} {K : PySem.W.Frag} {tl : TE} {σ : L2.St} {H0 H : Hp} {R : It → Hp → Prop} {g : Addr} (as : List α) (f : α → V) (hs : Same H0 H) (ht : ∀ Q : VK, Q (.ref g) H → tl σ H Q) (h : H0 g = some (.lst (as.map f)) ∨ H0 g = some (.tup (as.map f)))
    (k : ∀ J G, Walk J as.length G (YN as f) → (∀ H', Same H0 H' → G H') → R J H) : iOr (iList K tl) (iTup K tl) σ H R := by
  rcases h with h | h
  · exact .inl (ht _ ⟨g, rfl, ⟨_, SqL.of (hs _ _ h)⟩, k _ _ (wkL as f) fun H' s => SqL.of (s _ _ h)⟩)
  · exact .inr (ht _ ⟨g, rfl, ⟨_, SqT.of (hs _ _ h)⟩, k _ _ (wkT as f) fun H' s => SqT.of (s _ _ h)⟩)
structure InitOk (many : Int) (as : List Cl) (s : SS) : Prop where
  iv : Iv s
  pn : Pn s []
  many : s.many = many
  cl : s.cl = as
  mks : s.mks = []
  ln : s.ln = []
  up : s.up = false
  at_ : s.at_ = 0
  lo : s.lo = 1
def ss0 (many : Int) : SS := ⟨many, [], [], 0, [], [], none, 1, false, fun _ => 0, fun _ => none⟩
theorem init0 {many : Int} (lo : 0 ≤ many) (hi : many ≤ 30) : InitOk many [] (ss0 many) :=
  ⟨⟨lo, hi, fun _ h => (by cases h), fun _ h => (by cases h), List.nodup_nil, .nil, fun _ h => (by cases h), fun i l h => (by cases h), fun i l h => (by cases h), fun i l r h => (by cases h), fun _ h => (by cases h), fun _ h => (by cases h), Nat.le_refl _, fun _ h => (by cases h), Int.le_refl _, fun n h1 h2 => absurd h1 (Int.not_le.mpr h2)⟩,
    fun _ c h => (by cases h), rfl, rfl, rfl, rfl, rfl, rfl, rfl⟩
theorem init_put {many : Int} {as : List Cl} {s : SS} (h : InitOk many as s) {c : Cl} (hc : isCl many c.2 = true) : Iv { s with cl := s.cl ++ [c] } ∧ InitOk many (as ++ [c]) (putS s c) := by
  have hc' : isCl s.many c.2 = true := by rw [h.many]; exact hc
  have hq : ∀ m ∈ s.mks, Quiet (s.tr.take m) c.2 := fun m hm => by rw [h.mks] at hm; cases hm
  obtain ⟨p1, p2, p3, p4, p5⟩ := put_ok h.iv hc' hq
  refine ⟨add_iv h.iv hc' hq, p1, p4 _ h.pn, p2.many.trans h.many, ?_, p2.mks.trans h.mks, p2.ln.trans h.ln, p2.up.trans h.up, p3.trans h.at_, p2.lo.trans h.lo⟩
  rw [p2.cl]
  show s.cl ++ [c] = _
  rw [h.cl]
theorem InitOk.si {many : Int} {as : List Cl} {s : SS} (h : InitOk many as s) : SI as s := ⟨h.iv, h.pn, by rw [h.cl, h.ln, List.append_nil], by rw [h.ln]; exact trivial, by rw [h.ln]; exact Nat.zero_le _⟩
def sp_Search_init (K : PySem.W.Frag) : Sp := fun vs H Q _ => ∃ (p v dx : Addr) (H0 : Hp) (many : Int) (as : List Cl), vs = [.ref p, .int many, .ref v] ∧ Same H0 H ∧ H0 p = none ∧ H p = some (.ins (He.ga K "Search") dx []) ∧ (H0 v = some (.lst (as.map rf)) ∨ H0 v = some (.tup (as.map rf))) ∧ CLs H0 as ∧ 0 ≤ many ∧ many ≤ 30 ∧ (∀ x ∈ as, isCl many x.2 = true) ∧ as.length ≤ 100000 ∧
  ∀ H' A s, SAt1 K H0 H' p A s → InitOk many as s → Q .non H'
theorem len_Search_init (K : PySem.W.Frag) : ∀ vs H Q E, sp_Search_init K vs H Q E → vs.length = 3 := by
  rintro vs H Q E ⟨p, v, dx, H0, many, as, rfl, _⟩; rfl
section
variable {P : Program} {w : World} {K : PySem.W.Frag} {mg : Str → Option Value} {base : Heap}
theorem sc_Search_init : FnScope ["self", "many", "clauses", "clause"] ["self", "many", "clauses"] (defScope s_Search_init) := ⟨rfl, rfl, rfl, by decide +kernel, rfl, by decide +kernel, by decide +kernel⟩
theorem ok_Search_init (T : Tx K mg) (C_Search_put : CalF P w K mg base ("Search", some "put") 3 ["self", "clause"] (sp_Search_put K)) : CalF P w K mg base ("Search", some "__init__") 4 ["self", "many", "clauses"] (sp_Search_init K) := by
  obtain ⟨fd_Search_put, b_Search_put, G_Search_put, kp_Search_put⟩ := C_Search_put
  have mt_Search_put : Meth K (He.ga K "Search") "put" (He.ma K (He.ga K "Search") "put") := T.meth 92
  have cl_Search : Cls K (He.ga K "Search") := T.cls 89
  have no_Search_many : NoAttr K (He.ga K "Search") "many" := T.noat 110
  have no_Search_clauses : NoAttr K (He.ga K "Search") "clauses" := T.noat 106
  have no_Search_by : NoAttr K (He.ga K "Search") "by" := T.noat 104
  have no_Search_sure : NoAttr K (He.ga K "Search") "sure" := T.noat 113
  have no_Search_level : NoAttr K (He.ga K "Search") "level" := T.noat 108
  have no_Search_reason : NoAttr K (He.ga K "Search") "reason" := T.noat 112
  have no_Search_trail : NoAttr K (He.ga K "Search") "trail" := T.noat 114
  have no_Search_at : NoAttr K (He.ga K "Search") "at" := T.noat 103
  have no_Search_marks : NoAttr K (He.ga K "Search") "marks" := T.noat 111
  have no_Search_learnt : NoAttr K (He.ga K "Search") "learnt" := T.noat 107
  have no_Search_clash : NoAttr K (He.ga K "Search") "clash" := T.noat 105
  have no_Search_low : NoAttr K (He.ga K "Search") "low" := T.noat 109
  have no_Search_up : NoAttr K (He.ga K "Search") "up" := T.noat 115
  refine calF T (d := d_Search_init) 14 rfl sc_Search_init rfl rfl (fun _ _ _ _ _ _ us hl => match us, hl with | [_, _, _], _ => rfl) (len_Search_init K) ?_
  intro cdv A outer s H vs Q E hr h
  have hu := hu_of hr
  obtain ⟨p, v, dx, H0, many, as, rfl, S0, n0, hp, hv, hcls, lo, hi, hcl, hl, k⟩ := h
  refine ⟨_, (pss_cons (ps_asg (pe_tup (pa_cons (pv 1) (pa_cons (pe_lst pa_nil) (pa_cons pe_dnewK pa_nil)))) (pg_tup rfl (pgs_cons (pg_fld2 cl_Search no_Search_many (pv 0)) (pgs_cons (pg_fld2 cl_Search no_Search_clauses (pv 0)) (pgs_cons (pg_fld2 cl_Search no_Search_by (pv 0)) pgs_nil)))))
      (pss_cons (ps_asg (pe_tup (pa_cons pe_dnewK (pa_cons pe_dnewK (pa_cons pe_dnewK pa_nil)))) (pg_tup rfl (pgs_cons (pg_fld2 cl_Search no_Search_sure (pv 0)) (pgs_cons (pg_fld2 cl_Search no_Search_level (pv 0)) (pgs_cons (pg_fld2 cl_Search no_Search_reason (pv 0)) pgs_nil)))))
      (pss_cons (ps_asg (pe_tup (pa_cons (pe_lst pa_nil) (pa_cons pe_int (pa_cons (pe_lst pa_nil) pa_nil)))) (pg_tup rfl (pgs_cons (pg_fld2 cl_Search no_Search_trail (pv 0)) (pgs_cons (pg_fld2 cl_Search no_Search_at (pv 0)) (pgs_cons (pg_fld2 cl_Search no_Search_marks (pv 0)) pgs_nil)))))
      (pss_cons (ps_asg (pe_tup (pa_cons (pe_lst pa_nil) (pa_cons pe_non (pa_cons pe_int (pa_cons pe_bl pa_nil))))) (pg_tup rfl (pgs_cons (pg_fld2 cl_Search no_Search_learnt (pv 0)) (pgs_cons (pg_fld2 cl_Search no_Search_clash (pv 0)) (pgs_cons (pg_fld2 cl_Search no_Search_low (pv 0)) (pgs_cons (pg_fld2 cl_Search no_Search_up (pv 0)) pgs_nil))))))
      (pss_one (ps_for PassesOwn.never rfl (pi_seqK (K := K) rfl (pv 2)) (pg_name (i := 3) sc_Search_init.nd rfl (Or.inl rfl)) (pss_one (ps_expr (pe_meth (pv 0) cl_Search mt_Search_put G_Search_put (hr.mono (by decide)) b_Search_put .nil pass0 (pa_cons (pv 3) pa_nil)))))))))), ?_⟩
  refine ⟨_, rfl, Nat.zero_le _, fun a ha b hb => ⟨by show 3 ≤ sizeLine; decide, fun t1 ht1 => ?_⟩⟩
  have pa : p ≠ a := ne_of_none hp ha
  have k1 : Ke p H (upd H a (.lst [])) := Ke.new ha
  have k2 : Ke p (upd H a (.lst [])) (upd (upd H a (.lst [])) b (.dK [])) := Ke.new hb
  have p2 := Same.new (o := .dK []) hb _ _ (Same.new (o := .lst []) ha _ _ hp)
  have p3 := Same.new (o := .tup [.int many, .ref a, .ref b]) ht1 _ _ p2
  refine ⟨t1, _, rfl, SqT.of upd_same, rfl, _, _, rfl, ⟨_, rfl, p, dx, _, rfl, p3, by decide, _, _, rfl, ⟨_, rfl, p, dx, _, rfl, upd_same, by show 1 < 1000; decide, _, _, rfl, ⟨_, rfl, p, dx, _, rfl, upd_same, by show 2 < 1000; decide, rfl, ?_⟩⟩⟩⟩
  have kt1 : Ke p (upd (upd H a (.lst [])) b (.dK [])) (upd (upd (upd (upd (upd (upd H a (.lst [])) b (.dK [])) t1 (.tup [.int many, .ref a, .ref b])) p (.ins (He.ga K "Search") dx (putF "many" (.int many) []))) p (.ins (He.ga K "Search") dx (putF "clauses" (.ref a) (putF "many" (.int many) [])))) p (.ins (He.ga K "Search") dx (putF "by" (.ref b) (putF "clauses" (.ref a) (putF "many" (.int many) []))))) := ((((Ke.new ht1).trans .own).trans .own).trans .own)
  have K3 : Ke p H (upd (upd (upd (upd (upd (upd H a (.lst [])) b (.dK [])) t1 (.tup [.int many, .ref a, .ref b])) p (.ins (He.ga K "Search") dx (putF "many" (.int many) []))) p (.ins (He.ga K "Search") dx (putF "clauses" (.ref a) (putF "many" (.int many) [])))) p (.ins (He.ga K "Search") dx (putF "by" (.ref b) (putF "clauses" (.ref a) (putF "many" (.int many) []))))) := (k1.trans k2).trans kt1
  have A3 : (upd (upd (upd (upd (upd (upd H a (.lst [])) b (.dK [])) t1 (.tup [.int many, .ref a, .ref b])) p (.ins (He.ga K "Search") dx (putF "many" (.int many) []))) p (.ins (He.ga K "Search") dx (putF "clauses" (.ref a) (putF "many" (.int many) [])))) p (.ins (He.ga K "Search") dx (putF "by" (.ref b) (putF "clauses" (.ref a) (putF "many" (.int many) []))))) a = some (.lst []) := (k2.trans kt1) _ _ pa.symm upd_same
  have pb : p ≠ b := ne_of_none (Same.new (o := .lst []) ha _ _ hp) hb
  have B3 : (upd (upd (upd (upd (upd (upd H a (.lst [])) b (.dK [])) t1 (.tup [.int many, .ref a, .ref b])) p (.ins (He.ga K "Search") dx (putF "many" (.int many) []))) p (.ins (He.ga K "Search") dx (putF "clauses" (.ref a) (putF "many" (.int many) [])))) p (.ins (He.ga K "Search") dx (putF "by" (.ref b) (putF "clauses" (.ref a) (putF "many" (.int many) []))))) b = some (.dK []) := kt1 _ _ pb.symm upd_same
  have P3 : (upd (upd (upd (upd (upd (upd H a (.lst [])) b (.dK [])) t1 (.tup [.int many, .ref a, .ref b])) p (.ins (He.ga K "Search") dx (putF "many" (.int many) []))) p (.ins (He.ga K "Search") dx (putF "clauses" (.ref a) (putF "many" (.int many) [])))) p (.ins (He.ga K "Search") dx (putF "by" (.ref b) (putF "clauses" (.ref a) (putF "many" (.int many) []))))) p = some (.ins (He.ga K "Search") dx [("many", .int many), ("clauses", .ref a), ("by", .ref b)]) := upd_same
  generalize (upd (upd (upd (upd (upd (upd H a (.lst [])) b (.dK [])) t1 (.tup [.int many, .ref a, .ref b])) p (.ins (He.ga K "Search") dx (putF "many" (.int many) []))) p (.ins (He.ga K "Search") dx (putF "clauses" (.ref a) (putF "many" (.int many) [])))) p (.ins (He.ga K "Search") dx (putF "by" (.ref b) (putF "clauses" (.ref a) (putF "many" (.int many) []))))) = H3 at K3 A3 B3 P3 ⊢
  clear kt1 p2 p3 k1 k2
  refine fun u hu lv hlv r hr => ⟨by show 3 ≤ sizeLine; decide, fun t2 ht2 => ?_⟩
  have qu : p ≠ u := ne_of_none P3 hu
  have ku : Ke p H3 (upd H3 u (.dK [])) := Ke.new hu
  have qlv : p ≠ lv := ne_of_none (Same.new (o := .dK []) hu _ _ P3) hlv
  have klv : Ke p (upd H3 u (.dK [])) (upd (upd H3 u (.dK [])) lv (.dK [])) := Ke.new hlv
  have qr : p ≠ r := ne_of_none (Same.new (o := .dK []) hlv _ _ (Same.new (o := .dK []) hu _ _ P3)) hr
  have kr : Ke p (upd (upd H3 u (.dK [])) lv (.dK [])) (upd (upd (upd H3 u (.dK [])) lv (.dK [])) r (.dK [])) := Ke.new hr
  have pl2 := (Same.new (o := .tup [.ref u, .ref lv, .ref r]) ht2 _ _ (Same.new (o := .dK []) hr _ _ (Same.new (o := .dK []) hlv _ _ (Same.new (o := .dK []) hu _ _ P3))))
  refine ⟨t2, _, rfl, SqT.of upd_same, rfl, _, _, rfl, ⟨_, rfl, p, dx, _, rfl, pl2, by show 3 < 1000; decide, _, _, rfl, ⟨_, rfl, p, dx, _, rfl, upd_same, by show 4 < 1000; decide, _, _, rfl, ⟨_, rfl, p, dx, _, rfl, upd_same, by show 5 < 1000; decide, rfl, ?_⟩⟩⟩⟩
  have kt2 : Ke p (upd (upd (upd H3 u (.dK [])) lv (.dK [])) r (.dK [])) (upd (upd (upd (upd (upd (upd (upd H3 u (.dK [])) lv (.dK [])) r (.dK [])) t2 (.tup [.ref u, .ref lv, .ref r])) p (.ins (He.ga K "Search") dx (putF "sure" (.ref u) [("many", .int many), ("clauses", .ref a), ("by", .ref b)]))) p (.ins (He.ga K "Search") dx (putF "level" (.ref lv) (putF "sure" (.ref u) [("many", .int many), ("clauses", .ref a), ("by", .ref b)])))) p (.ins (He.ga K "Search") dx (putF "reason" (.ref r) (putF "level" (.ref lv) (putF "sure" (.ref u) [("many", .int many), ("clauses", .ref a), ("by", .ref b)]))))) := ((((Ke.new ht2).trans .own).trans .own).trans .own)
  have KK2 : Ke p H3 (upd (upd (upd (upd (upd (upd (upd H3 u (.dK [])) lv (.dK [])) r (.dK [])) t2 (.tup [.ref u, .ref lv, .ref r])) p (.ins (He.ga K "Search") dx (putF "sure" (.ref u) [("many", .int many), ("clauses", .ref a), ("by", .ref b)]))) p (.ins (He.ga K "Search") dx (putF "level" (.ref lv) (putF "sure" (.ref u) [("many", .int many), ("clauses", .ref a), ("by", .ref b)])))) p (.ins (He.ga K "Search") dx (putF "reason" (.ref r) (putF "level" (.ref lv) (putF "sure" (.ref u) [("many", .int many), ("clauses", .ref a), ("by", .ref b)]))))) := (((ku.trans klv).trans kr).trans kt2)
  have Fu : (upd (upd (upd (upd (upd (upd (upd H3 u (.dK [])) lv (.dK [])) r (.dK [])) t2 (.tup [.ref u, .ref lv, .ref r])) p (.ins (He.ga K "Search") dx (putF "sure" (.ref u) [("many", .int many), ("clauses", .ref a), ("by", .ref b)]))) p (.ins (He.ga K "Search") dx (putF "level" (.ref lv) (putF "sure" (.ref u) [("many", .int many), ("clauses", .ref a), ("by", .ref b)])))) p (.ins (He.ga K "Search") dx (putF "reason" (.ref r) (putF "level" (.ref lv) (putF "sure" (.ref u) [("many", .int many), ("clauses", .ref a), ("by", .ref b)]))))) u = some (.dK []) := ((klv.trans kr).trans kt2) _ _ qu.symm upd_same
  have Flv : (upd (upd (upd (upd (upd (upd (upd H3 u (.dK [])) lv (.dK [])) r (.dK [])) t2 (.tup [.ref u, .ref lv, .ref r])) p (.ins (He.ga K "Search") dx (putF "sure" (.ref u) [("many", .int many), ("clauses", .ref a), ("by", .ref b)]))) p (.ins (He.ga K "Search") dx (putF "level" (.ref lv) (putF "sure" (.ref u) [("many", .int many), ("clauses", .ref a), ("by", .ref b)])))) p (.ins (He.ga K "Search") dx (putF "reason" (.ref r) (putF "level" (.ref lv) (putF "sure" (.ref u) [("many", .int many), ("clauses", .ref a), ("by", .ref b)]))))) lv = some (.dK []) := (kr.trans kt2) _ _ qlv.symm upd_same
  have Fr : (upd (upd (upd (upd (upd (upd (upd H3 u (.dK [])) lv (.dK [])) r (.dK [])) t2 (.tup [.ref u, .ref lv, .ref r])) p (.ins (He.ga K "Search") dx (putF "sure" (.ref u) [("many", .int many), ("clauses", .ref a), ("by", .ref b)]))) p (.ins (He.ga K "Search") dx (putF "level" (.ref lv) (putF "sure" (.ref u) [("many", .int many), ("clauses", .ref a), ("by", .ref b)])))) p (.ins (He.ga K "Search") dx (putF "reason" (.ref r) (putF "level" (.ref lv) (putF "sure" (.ref u) [("many", .int many), ("clauses", .ref a), ("by", .ref b)]))))) r = some (.dK []) := kt2 _ _ qr.symm upd_same
  have P12 : (upd (upd (upd (upd (upd (upd (upd H3 u (.dK [])) lv (.dK [])) r (.dK [])) t2 (.tup [.ref u, .ref lv, .ref r])) p (.ins (He.ga K "Search") dx (putF "sure" (.ref u) [("many", .int many), ("clauses", .ref a), ("by", .ref b)]))) p (.ins (He.ga K "Search") dx (putF "level" (.ref lv) (putF "sure" (.ref u) [("many", .int many), ("clauses", .ref a), ("by", .ref b)])))) p (.ins (He.ga K "Search") dx (putF "reason" (.ref r) (putF "level" (.ref lv) (putF "sure" (.ref u) [("many", .int many), ("clauses", .ref a), ("by", .ref b)]))))) p = some (.ins (He.ga K "Search") dx [("many", .int many), ("clauses", .ref a), ("by", .ref b), ("sure", .ref u), ("level", .ref lv), ("reason", .ref r)]) := upd_same
  have n_a_u : a ≠ u := ne_of_none A3 hu
  have n_b_u : b ≠ u := ne_of_none B3 hu
  have n_a_lv : a ≠ lv := ne_of_none (Same.new (o := .dK []) hu _ _ A3) hlv
  have n_b_lv : b ≠ lv := ne_of_none (Same.new (o := .dK []) hu _ _ B3) hlv
  have n_u_lv : u ≠ lv := ne_of_none (upd_same (H := H3) (a := u) (o := .dK [])) hlv
  have n_a_r : a ≠ r := ne_of_none (Same.new (o := .dK []) hlv _ _ (Same.new (o := .dK []) hu _ _ A3)) hr
  have n_b_r : b ≠ r := ne_of_none (Same.new (o := .dK []) hlv _ _ (Same.new (o := .dK []) hu _ _ B3)) hr
  have n_u_r : u ≠ r := ne_of_none (Same.new (o := .dK []) hlv _ _ (upd_same (H := H3) (a := u) (o := .dK []))) hr
  have n_lv_r : lv ≠ r := ne_of_none (upd_same (H := (upd H3 u (.dK []))) (a := lv) (o := .dK [])) hr
  clear pl2 kt2 ku klv kr
  generalize (upd (upd (upd (upd (upd (upd (upd H3 u (.dK [])) lv (.dK [])) r (.dK [])) t2 (.tup [.ref u, .ref lv, .ref r])) p (.ins (He.ga K "Search") dx (putF "sure" (.ref u) [("many", .int many), ("clauses", .ref a), ("by", .ref b)]))) p (.ins (He.ga K "Search") dx (putF "level" (.ref lv) (putF "sure" (.ref u) [("many", .int many), ("clauses", .ref a), ("by", .ref b)])))) p (.ins (He.ga K "Search") dx (putF "reason" (.ref r) (putF "level" (.ref lv) (putF "sure" (.ref u) [("many", .int many), ("clauses", .ref a), ("by", .ref b)]))))) = H6 at KK2 Fu Flv Fr P12 ⊢
  refine ⟨Nat.zero_le _, fun tr htr => ⟨Nat.zero_le _, fun mk hmk => ⟨by show 3 ≤ sizeLine; decide, fun t3 ht3 => ?_⟩⟩⟩
  have qtr : p ≠ tr := ne_of_none P12 htr
  have ktr : Ke p H6 (upd H6 tr (.lst [])) := Ke.new htr
  have qmk : p ≠ mk := ne_of_none (Same.new (o := .lst []) htr _ _ P12) hmk
  have kmk : Ke p (upd H6 tr (.lst [])) (upd (upd H6 tr (.lst [])) mk (.lst [])) := Ke.new hmk
  have pl3 := (Same.new (o := .tup [.ref tr, .int 0, .ref mk]) ht3 _ _ (Same.new (o := .lst []) hmk _ _ (Same.new (o := .lst []) htr _ _ P12)))
  refine ⟨t3, _, rfl, SqT.of upd_same, rfl, _, _, rfl, ⟨_, rfl, p, dx, _, rfl, pl3, by show 6 < 1000; decide, _, _, rfl, ⟨_, rfl, p, dx, _, rfl, upd_same, by show 7 < 1000; decide, _, _, rfl, ⟨_, rfl, p, dx, _, rfl, upd_same, by show 8 < 1000; decide, rfl, ?_⟩⟩⟩⟩
  have kt3 : Ke p (upd (upd H6 tr (.lst [])) mk (.lst [])) (upd (upd (upd (upd (upd (upd H6 tr (.lst [])) mk (.lst [])) t3 (.tup [.ref tr, .int 0, .ref mk])) p (.ins (He.ga K "Search") dx (putF "trail" (.ref tr) [("many", .int many), ("clauses", .ref a), ("by", .ref b), ("sure", .ref u), ("level", .ref lv), ("reason", .ref r)]))) p (.ins (He.ga K "Search") dx (putF "at" (.int 0) (putF "trail" (.ref tr) [("many", .int many), ("clauses", .ref a), ("by", .ref b), ("sure", .ref u), ("level", .ref lv), ("reason", .ref r)])))) p (.ins (He.ga K "Search") dx (putF "marks" (.ref mk) (putF "at" (.int 0) (putF "trail" (.ref tr) [("many", .int many), ("clauses", .ref a), ("by", .ref b), ("sure", .ref u), ("level", .ref lv), ("reason", .ref r)]))))) := ((((Ke.new ht3).trans .own).trans .own).trans .own)
  have KK3 : Ke p H6 (upd (upd (upd (upd (upd (upd H6 tr (.lst [])) mk (.lst [])) t3 (.tup [.ref tr, .int 0, .ref mk])) p (.ins (He.ga K "Search") dx (putF "trail" (.ref tr) [("many", .int many), ("clauses", .ref a), ("by", .ref b), ("sure", .ref u), ("level", .ref lv), ("reason", .ref r)]))) p (.ins (He.ga K "Search") dx (putF "at" (.int 0) (putF "trail" (.ref tr) [("many", .int many), ("clauses", .ref a), ("by", .ref b), ("sure", .ref u), ("level", .ref lv), ("reason", .ref r)])))) p (.ins (He.ga K "Search") dx (putF "marks" (.ref mk) (putF "at" (.int 0) (putF "trail" (.ref tr) [("many", .int many), ("clauses", .ref a), ("by", .ref b), ("sure", .ref u), ("level", .ref lv), ("reason", .ref r)]))))) := ((ktr.trans kmk).trans kt3)
  have Ftr : (upd (upd (upd (upd (upd (upd H6 tr (.lst [])) mk (.lst [])) t3 (.tup [.ref tr, .int 0, .ref mk])) p (.ins (He.ga K "Search") dx (putF "trail" (.ref tr) [("many", .int many), ("clauses", .ref a), ("by", .ref b), ("sure", .ref u), ("level", .ref lv), ("reason", .ref r)]))) p (.ins (He.ga K "Search") dx (putF "at" (.int 0) (putF "trail" (.ref tr) [("many", .int many), ("clauses", .ref a), ("by", .ref b), ("sure", .ref u), ("level", .ref lv), ("reason", .ref r)])))) p (.ins (He.ga K "Search") dx (putF "marks" (.ref mk) (putF "at" (.int 0) (putF "trail" (.ref tr) [("many", .int many), ("clauses", .ref a), ("by", .ref b), ("sure", .ref u), ("level", .ref lv), ("reason", .ref r)]))))) tr = some (.lst []) := (kmk.trans kt3) _ _ qtr.symm upd_same
  have Fmk : (upd (upd (upd (upd (upd (upd H6 tr (.lst [])) mk (.lst [])) t3 (.tup [.ref tr, .int 0, .ref mk])) p (.ins (He.ga K "Search") dx (putF "trail" (.ref tr) [("many", .int many), ("clauses", .ref a), ("by", .ref b), ("sure", .ref u), ("level", .ref lv), ("reason", .ref r)]))) p (.ins (He.ga K "Search") dx (putF "at" (.int 0) (putF "trail" (.ref tr) [("many", .int many), ("clauses", .ref a), ("by", .ref b), ("sure", .ref u), ("level", .ref lv), ("reason", .ref r)])))) p (.ins (He.ga K "Search") dx (putF "marks" (.ref mk) (putF "at" (.int 0) (putF "trail" (.ref tr) [("many", .int many), ("clauses", .ref a), ("by", .ref b), ("sure", .ref u), ("level", .ref lv), ("reason", .ref r)]))))) mk = some (.lst []) := kt3 _ _ qmk.symm upd_same
  have P13 : (upd (upd (upd (upd (upd (upd H6 tr (.lst [])) mk (.lst [])) t3 (.tup [.ref tr, .int 0, .ref mk])) p (.ins (He.ga K "Search") dx (putF "trail" (.ref tr) [("many", .int many), ("clauses", .ref a), ("by", .ref b), ("sure", .ref u), ("level", .ref lv), ("reason", .ref r)]))) p (.ins (He.ga K "Search") dx (putF "at" (.int 0) (putF "trail" (.ref tr) [("many", .int many), ("clauses", .ref a), ("by", .ref b), ("sure", .ref u), ("level", .ref lv), ("reason", .ref r)])))) p (.ins (He.ga K "Search") dx (putF "marks" (.ref mk) (putF "at" (.int 0) (putF "trail" (.ref tr) [("many", .int many), ("clauses", .ref a), ("by", .ref b), ("sure", .ref u), ("level", .ref lv), ("reason", .ref r)]))))) p = some (.ins (He.ga K "Search") dx [("many", .int many), ("clauses", .ref a), ("by", .ref b), ("sure", .ref u), ("level", .ref lv), ("reason", .ref r), ("trail", .ref tr), ("at", .int 0), ("marks", .ref mk)]) := upd_same
  have n_a_tr : a ≠ tr := ne_of_none (KK2 _ _ pa.symm A3) htr
  have n_b_tr : b ≠ tr := ne_of_none (KK2 _ _ pb.symm B3) htr
  have n_u_tr : u ≠ tr := ne_of_none Fu htr
  have n_lv_tr : lv ≠ tr := ne_of_none Flv htr
  have n_r_tr : r ≠ tr := ne_of_none Fr htr
  have n_a_mk : a ≠ mk := ne_of_none (Same.new (o := .lst []) htr _ _ (KK2 _ _ pa.symm A3)) hmk
  have n_b_mk : b ≠ mk := ne_of_none (Same.new (o := .lst []) htr _ _ (KK2 _ _ pb.symm B3)) hmk
  have n_u_mk : u ≠ mk := ne_of_none (Same.new (o := .lst []) htr _ _ Fu) hmk
  have n_lv_mk : lv ≠ mk := ne_of_none (Same.new (o := .lst []) htr _ _ Flv) hmk
  have n_r_mk : r ≠ mk := ne_of_none (Same.new (o := .lst []) htr _ _ Fr) hmk
  have n_tr_mk : tr ≠ mk := ne_of_none (upd_same (H := H6) (a := tr) (o := .lst [])) hmk
  clear pl3 kt3 ktr kmk
  generalize (upd (upd (upd (upd (upd (upd H6 tr (.lst [])) mk (.lst [])) t3 (.tup [.ref tr, .int 0, .ref mk])) p (.ins (He.ga K "Search") dx (putF "trail" (.ref tr) [("many", .int many), ("clauses", .ref a), ("by", .ref b), ("sure", .ref u), ("level", .ref lv), ("reason", .ref r)]))) p (.ins (He.ga K "Search") dx (putF "at" (.int 0) (putF "trail" (.ref tr) [("many", .int many), ("clauses", .ref a), ("by", .ref b), ("sure", .ref u), ("level", .ref lv), ("reason", .ref r)])))) p (.ins (He.ga K "Search") dx (putF "marks" (.ref mk) (putF "at" (.int 0) (putF "trail" (.ref tr) [("many", .int many), ("clauses", .ref a), ("by", .ref b), ("sure", .ref u), ("level", .ref lv), ("reason", .ref r)]))))) = H9 at KK3 Ftr Fmk P13 ⊢
  refine ⟨Nat.zero_le _, fun e he => ⟨by show 4 ≤ sizeLine; decide, fun t4 ht4 => ?_⟩⟩
  have qe : p ≠ e := ne_of_none P13 he
  have ke : Ke p H9 (upd H9 e (.lst [])) := Ke.new he
  have pl4 := (Same.new (o := .tup [.ref e, .non, .int 1, .bl false]) ht4 _ _ (Same.new (o := .lst []) he _ _ P13))
  refine ⟨t4, _, rfl, SqT.of upd_same, rfl, _, _, rfl, ⟨_, rfl, p, dx, _, rfl, pl4, by show 9 < 1000; decide, _, _, rfl, ⟨_, rfl, p, dx, _, rfl, upd_same, by show 10 < 1000; decide, _, _, rfl, ⟨_, rfl, p, dx, _, rfl, upd_same, by show 11 < 1000; decide, _, _, rfl, ⟨_, rfl, p, dx, _, rfl, upd_same, by show 12 < 1000; decide, rfl, ?_⟩⟩⟩⟩⟩
  have kt4 : Ke p (upd H9 e (.lst [])) (upd (upd (upd (upd (upd (upd H9 e (.lst [])) t4 (.tup [.ref e, .non, .int 1, .bl false])) p (.ins (He.ga K "Search") dx (putF "learnt" (.ref e) [("many", .int many), ("clauses", .ref a), ("by", .ref b), ("sure", .ref u), ("level", .ref lv), ("reason", .ref r), ("trail", .ref tr), ("at", .int 0), ("marks", .ref mk)]))) p (.ins (He.ga K "Search") dx (putF "clash" (.non) (putF "learnt" (.ref e) [("many", .int many), ("clauses", .ref a), ("by", .ref b), ("sure", .ref u), ("level", .ref lv), ("reason", .ref r), ("trail", .ref tr), ("at", .int 0), ("marks", .ref mk)])))) p (.ins (He.ga K "Search") dx (putF "low" (.int 1) (putF "clash" (.non) (putF "learnt" (.ref e) [("many", .int many), ("clauses", .ref a), ("by", .ref b), ("sure", .ref u), ("level", .ref lv), ("reason", .ref r), ("trail", .ref tr), ("at", .int 0), ("marks", .ref mk)]))))) p (.ins (He.ga K "Search") dx (putF "up" (.bl false) (putF "low" (.int 1) (putF "clash" (.non) (putF "learnt" (.ref e) [("many", .int many), ("clauses", .ref a), ("by", .ref b), ("sure", .ref u), ("level", .ref lv), ("reason", .ref r), ("trail", .ref tr), ("at", .int 0), ("marks", .ref mk)])))))) := (((((Ke.new ht4).trans .own).trans .own).trans .own).trans .own)
  have KK4 : Ke p H9 (upd (upd (upd (upd (upd (upd H9 e (.lst [])) t4 (.tup [.ref e, .non, .int 1, .bl false])) p (.ins (He.ga K "Search") dx (putF "learnt" (.ref e) [("many", .int many), ("clauses", .ref a), ("by", .ref b), ("sure", .ref u), ("level", .ref lv), ("reason", .ref r), ("trail", .ref tr), ("at", .int 0), ("marks", .ref mk)]))) p (.ins (He.ga K "Search") dx (putF "clash" (.non) (putF "learnt" (.ref e) [("many", .int many), ("clauses", .ref a), ("by", .ref b), ("sure", .ref u), ("level", .ref lv), ("reason", .ref r), ("trail", .ref tr), ("at", .int 0), ("marks", .ref mk)])))) p (.ins (He.ga K "Search") dx (putF "low" (.int 1) (putF "clash" (.non) (putF "learnt" (.ref e) [("many", .int many), ("clauses", .ref a), ("by", .ref b), ("sure", .ref u), ("level", .ref lv), ("reason", .ref r), ("trail", .ref tr), ("at", .int 0), ("marks", .ref mk)]))))) p (.ins (He.ga K "Search") dx (putF "up" (.bl false) (putF "low" (.int 1) (putF "clash" (.non) (putF "learnt" (.ref e) [("many", .int many), ("clauses", .ref a), ("by", .ref b), ("sure", .ref u), ("level", .ref lv), ("reason", .ref r), ("trail", .ref tr), ("at", .int 0), ("marks", .ref mk)])))))) := (ke.trans kt4)
  have Fe : (upd (upd (upd (upd (upd (upd H9 e (.lst [])) t4 (.tup [.ref e, .non, .int 1, .bl false])) p (.ins (He.ga K "Search") dx (putF "learnt" (.ref e) [("many", .int many), ("clauses", .ref a), ("by", .ref b), ("sure", .ref u), ("level", .ref lv), ("reason", .ref r), ("trail", .ref tr), ("at", .int 0), ("marks", .ref mk)]))) p (.ins (He.ga K "Search") dx (putF "clash" (.non) (putF "learnt" (.ref e) [("many", .int many), ("clauses", .ref a), ("by", .ref b), ("sure", .ref u), ("level", .ref lv), ("reason", .ref r), ("trail", .ref tr), ("at", .int 0), ("marks", .ref mk)])))) p (.ins (He.ga K "Search") dx (putF "low" (.int 1) (putF "clash" (.non) (putF "learnt" (.ref e) [("many", .int many), ("clauses", .ref a), ("by", .ref b), ("sure", .ref u), ("level", .ref lv), ("reason", .ref r), ("trail", .ref tr), ("at", .int 0), ("marks", .ref mk)]))))) p (.ins (He.ga K "Search") dx (putF "up" (.bl false) (putF "low" (.int 1) (putF "clash" (.non) (putF "learnt" (.ref e) [("many", .int many), ("clauses", .ref a), ("by", .ref b), ("sure", .ref u), ("level", .ref lv), ("reason", .ref r), ("trail", .ref tr), ("at", .int 0), ("marks", .ref mk)])))))) e = some (.lst []) := kt4 _ _ qe.symm upd_same
  have P14 : (upd (upd (upd (upd (upd (upd H9 e (.lst [])) t4 (.tup [.ref e, .non, .int 1, .bl false])) p (.ins (He.ga K "Search") dx (putF "learnt" (.ref e) [("many", .int many), ("clauses", .ref a), ("by", .ref b), ("sure", .ref u), ("level", .ref lv), ("reason", .ref r), ("trail", .ref tr), ("at", .int 0), ("marks", .ref mk)]))) p (.ins (He.ga K "Search") dx (putF "clash" (.non) (putF "learnt" (.ref e) [("many", .int many), ("clauses", .ref a), ("by", .ref b), ("sure", .ref u), ("level", .ref lv), ("reason", .ref r), ("trail", .ref tr), ("at", .int 0), ("marks", .ref mk)])))) p (.ins (He.ga K "Search") dx (putF "low" (.int 1) (putF "clash" (.non) (putF "learnt" (.ref e) [("many", .int many), ("clauses", .ref a), ("by", .ref b), ("sure", .ref u), ("level", .ref lv), ("reason", .ref r), ("trail", .ref tr), ("at", .int 0), ("marks", .ref mk)]))))) p (.ins (He.ga K "Search") dx (putF "up" (.bl false) (putF "low" (.int 1) (putF "clash" (.non) (putF "learnt" (.ref e) [("many", .int many), ("clauses", .ref a), ("by", .ref b), ("sure", .ref u), ("level", .ref lv), ("reason", .ref r), ("trail", .ref tr), ("at", .int 0), ("marks", .ref mk)])))))) p = some (.ins (He.ga K "Search") dx [("many", .int many), ("clauses", .ref a), ("by", .ref b), ("sure", .ref u), ("level", .ref lv), ("reason", .ref r), ("trail", .ref tr), ("at", .int 0), ("marks", .ref mk), ("learnt", .ref e), ("clash", .non), ("low", .int 1), ("up", .bl false)]) := upd_same
  have n_a_e : a ≠ e := ne_of_none (KK3 _ _ pa.symm (KK2 _ _ pa.symm A3)) he
  have n_b_e : b ≠ e := ne_of_none (KK3 _ _ pb.symm (KK2 _ _ pb.symm B3)) he
  have n_u_e : u ≠ e := ne_of_none (KK3 _ _ qu.symm Fu) he
  have n_lv_e : lv ≠ e := ne_of_none (KK3 _ _ qlv.symm Flv) he
  have n_r_e : r ≠ e := ne_of_none (KK3 _ _ qr.symm Fr) he
  have n_tr_e : tr ≠ e := ne_of_none Ftr he
  have n_mk_e : mk ≠ e := ne_of_none Fmk he
  clear pl4 kt4 ke
  generalize (upd (upd (upd (upd (upd (upd H9 e (.lst [])) t4 (.tup [.ref e, .non, .int 1, .bl false])) p (.ins (He.ga K "Search") dx (putF "learnt" (.ref e) [("many", .int many), ("clauses", .ref a), ("by", .ref b), ("sure", .ref u), ("level", .ref lv), ("reason", .ref r), ("trail", .ref tr), ("at", .int 0), ("marks", .ref mk)]))) p (.ins (He.ga K "Search") dx (putF "clash" (.non) (putF "learnt" (.ref e) [("many", .int many), ("clauses", .ref a), ("by", .ref b), ("sure", .ref u), ("level", .ref lv), ("reason", .ref r), ("trail", .ref tr), ("at", .int 0), ("marks", .ref mk)])))) p (.ins (He.ga K "Search") dx (putF "low" (.int 1) (putF "clash" (.non) (putF "learnt" (.ref e) [("many", .int many), ("clauses", .ref a), ("by", .ref b), ("sure", .ref u), ("level", .ref lv), ("reason", .ref r), ("trail", .ref tr), ("at", .int 0), ("marks", .ref mk)]))))) p (.ins (He.ga K "Search") dx (putF "up" (.bl false) (putF "low" (.int 1) (putF "clash" (.non) (putF "learnt" (.ref e) [("many", .int many), ("clauses", .ref a), ("by", .ref b), ("sure", .ref u), ("level", .ref lv), ("reason", .ref r), ("trail", .ref tr), ("at", .int 0), ("marks", .ref mk)])))))) = HF at KK4 Fe P14 ⊢
  have KF : Ke p H HF := K3.trans (KK2.trans (KK3.trans KK4))
  have SF : Same H0 HF := fun y o e => KF y o (fun z => by rw [z, n0] at e; cases e) (S0 _ _ e)
  have fa : H0 a = none := S0.free ha
  have fb : H0 b = none := S0.free ((Ke.new (p := p) (o := .lst []) ha).free pb.symm hb)
  have fu : H0 u = none := S0.free (K3.free qu.symm hu)
  have flv : H0 lv = none := S0.free (K3.free qlv.symm ((Ke.new (p := p) (o := .dK []) hu).free qlv.symm hlv))
  have fr : H0 r = none := S0.free (K3.free qr.symm ((Ke.new (p := p) (o := .dK []) hu).free qr.symm ((Ke.new (p := p) (o := .dK []) hlv).free qr.symm hr)))
  have ftr : H0 tr = none := S0.free (K3.free qtr.symm (KK2.free qtr.symm htr))
  have fmk : H0 mk = none := S0.free (K3.free qmk.symm (KK2.free qmk.symm ((Ke.new (p := p) (o := .lst []) htr).free qmk.symm hmk)))
  have fe : H0 e = none := S0.free (K3.free qe.symm (KK2.free qe.symm (KK3.free qe.symm he)))
  have GF : SAt1 K H0 HF p ⟨dx, a, b, u, lv, r, tr, mk, e, []⟩ (ss0 many) :=
    ⟨⟨n0, fa, fb, fu, flv, fr, ftr, fmk, fe, n_a_tr, n_a_mk, n_a_e, n_tr_mk, n_tr_e, n_mk_e, n_b_u, n_b_lv, n_b_r, n_u_lv, n_u_r, n_lv_r⟩, SF, fun _ h => (by cases h), P14, (KK4 _ _ pa.symm (KK3 _ _ pa.symm (KK2 _ _ pa.symm A3))), .start (KK4 _ _ pb.symm (KK3 _ _ pb.symm (KK2 _ _ pb.symm B3))), (KK4 _ _ qu.symm (KK3 _ _ qu.symm Fu)), ⟨[], (KK4 _ _ qlv.symm (KK3 _ _ qlv.symm Flv)), .nil _, fun _ h => (by cases h)⟩, ⟨[], (KK4 _ _ qr.symm (KK3 _ _ qr.symm Fr)), .nil _, fun _ h => (by cases h)⟩, (KK4 _ _ qtr.symm Ftr), (KK4 _ _ qmk.symm Fmk), Fe⟩
  refine seqGoF as rf SF (fun Q q => ⟨_, rfl, q⟩) hv fun J G0 w0 hG => ?_
  refine forA as (fun σ x => σ.set 3 (some (rf x))) w0 (fun σ => yName) (fun don σ H2 => ∃ A s2 x, σ = [some (.ref p), some (.int many), some (.ref v), x] ∧ SAt1 K H0 H2 p A s2 ∧ InitOk many don s2 ∧ G0 H2) ⟨_, _, none, rfl, GF, init0 lo hi, hG _ SF⟩ (fun l σ H2 ⟨A, s2, x, _, _, _, g⟩ => g) ?_ ?_
  · rintro l x r' σ H2 H5 e1 ⟨A, s2, y, rfl, G2, O2, _⟩ s5
    have G3 := G2.grow s5
    have hx : x ∈ as := by rw [e1]; simp
    obtain ⟨i1, i2⟩ := init_put O2 (hcl x hx)
    refine ⟨_, rfl, p, _, _, rfl, G3.ins, rfl, _, rfl, p, H0, A, s2, x, rfl, G3, i1, G3.same _ _ (hcls x hx), ?_, fun H6' A6 G6 => ⟨A6, _, _, rfl, G6, i2, ?_⟩⟩
    · rw [O2.cl]
      rw [e1, List.length_append, List.length_cons] at hl; omega
    · exact hG _ G6.same
  · rintro σ H2 ⟨A, s2, x, rfl, G2, O2, _⟩
    exact k H2 A s2 G2 O2
end
end Nt
set_option maxRecDepth 100000
set_option maxHeartbeats 1000000
/-! NtV7: solve, solve_up, can_hold. -/
namespace Nt
open PySem PySem.Spec PyProof.Rows L2
theorem pa_starK {X : Cx} {K : PySem.W.Frag} {e : Expr} {es : List Expr} {te : TE} {t : TA} {p : Pos} (hK : X.K = K) (he : PE X e te) (hr : PA X es t) (hs : starEach (.Starred e p :: es) X.env = (true, eval e X.env) :: starEach es X.env := by rfl) : PA X (.Starred e p :: es) (StX.tStar K te t) := hK ▸ StX.pa_star he hr hs
/-- what is asked of what is solved -/
structure SAsk (H : Hp) (v : Addr) (many : Int) (as : List Cl) : Prop where
  at_ : H v = some (.lst (as.map rf)) ∨ H v = some (.tup (as.map rf))
  cls : CLs H as
  lo : 0 ≤ many
  hi : many ≤ 16
  cl : ∀ x ∈ as, isCl many x.2 = true
  len : as.length ≤ 30000
/-- a paper: clause by clause, the last one empty -/
structure PaperOk (many : Int) (cs : List (List Int)) (ps : List (List Int)) : Prop where
  steps : Steps cs ps
  cl : ∀ c ∈ ps, isCl many c = true
  last : ∃ qs, ps = qs ++ [[]]
  len : ps.length ≤ 65536
  short : ps.length ≤ 2 ^ many.toNat
/-- values: one literal of each number, each clause with one of them -/
structure ValsOk (many : Int) (cs : List (List Int)) (ys : List Int) : Prop where
  val : isVal many ys = true
  holds : ∀ c ∈ cs, ∃ l ∈ c, l ∈ ys
def sp_solve (K : PySem.W.Frag) : Sp := fun vs H Q _ => ∃ (v : Addr) (many : Int) (as : List Cl), vs = [.int many, .ref v] ∧ SAsk H v many as ∧
  (∀ H' t b ln, Same H H' → H' t = some (.tup [.str "paper", .ref b]) → H' b = some (.tup (ln.map rf)) → CLs H' ln → PaperOk many (as.map (·.2)) (ln.map (·.2)) → Q (.ref t) H') ∧
  ∀ H' t b ys, Same H H' → H' t = some (.tup [.str "values", .ref b]) → H' b = some (.tup (ys.map V.int)) → ValsOk many (as.map (·.2)) ys → Q (.ref t) H'
theorem len_solve (K : PySem.W.Frag) : ∀ vs H Q E, sp_solve K vs H Q E → vs.length = 2 := by
  rintro vs H Q E ⟨v, many, as, rfl, _⟩; rfl
def sp_solve_up (K : PySem.W.Frag) : Sp := fun vs H Q _ => ∃ (v : Addr) (many : Int) (as : List Cl), vs = [.int many, .ref v] ∧ SAsk H v many as ∧
  (∀ H' ps, Same H H' → PaperOk many (as.map (·.2)) ps → Q .non H') ∧
  ∀ H' b ys, Same H H' → H' b = some (.lst (ys.map V.int)) → ValsOk many (as.map (·.2)) ys → Q (.ref b) H'
theorem len_solve_up (K : PySem.W.Frag) : ∀ vs H Q E, sp_solve_up K vs H Q E → vs.length = 2 := by
  rintro vs H Q E ⟨v, many, as, rfl, _⟩; rfl
def sp_can_hold (K : PySem.W.Frag) : Sp := fun vs H Q _ => ∃ (v : Addr) (many : Int) (as : List Cl), vs = [.int many, .ref v] ∧ SAsk H v many as ∧
  (∀ H' ps, Same H H' → PaperOk many (as.map (·.2)) ps → Q (.bl false) H') ∧
  ∀ H' ys, Same H H' → ValsOk many (as.map (·.2)) ys → Q (.bl true) H'
theorem len_can_hold (K : PySem.W.Frag) : ∀ vs H Q E, sp_can_hold K vs H Q E → vs.length = 2 := by
  rintro vs H Q E ⟨v, many, as, rfl, _⟩; rfl
/-- a search just made -/
theorem init_ask {K : PySem.W.Frag} {H : Hp} {Q : VK} {E : XK} {v x dx : Addr} {many : Int} {as : List Cl} (A : SAsk H v many as) (hx : H x = none) (hdx : H dx = none) (hn : dx ≠ x) (k : ∀ H' A s, SAt1 K H H' x A s → InitOk many as s → Q .non H') :
    sp_Search_init K [.ref x, .int many, .ref v] (upd (upd H dx (.own x)) x (.ins (He.ga K "Search") dx [])) Q E :=
  ⟨x, v, dx, H, many, as, rfl, (Same.new hdx).trans (Same.new (by rw [upd_ne hn.symm]; exact hx)), hx, upd_same, A.at_, A.cls, A.lo, Int.le_trans A.hi (by decide), A.cl, Nat.le_trans A.len (by decide), k⟩
/-- what solve tells, of a search of these clauses -/
theorem solve_ask {K : PySem.W.Frag} {H0 H : Hp} {Q : VK} {E : XK} {p : Addr} {A : Ad} {s : SS} {many : Int} {as : List Cl} (G : SAt1 K H0 H p A s) (S : SI as s) (hm : s.many = many) (hi : many ≤ 16) (hl : as.length ≤ 30000)
    (k1 : ∀ H' A' s', SAt1 K H0 H' p A' s' → CLs H' s'.ln → s'.ln.length ≤ 65535 → PaperOk many (as.map (·.2)) (s'.ln.map (·.2) ++ [[]]) → Q .non H')
    (k2 : ∀ H' A' s' q ys, SAt1 K H0 H' p A' s' → H' q = some (.lst (ys.map V.int)) → H0 q = none → ValsOk many (as.map (·.2)) ys → Q (.ref q) H') : sp_Search_solve K [.ref p] H Q E := by
  refine ⟨p, H0, A, s, as, rfl, G, S, by rw [hm]; exact hi, hl, fun H' A' s' G' O st => ?_, fun H' A' s' q ys G' O hq hq0 hv hh => ?_⟩
  · have hlen : s'.ln.length ≤ 65535 := by
      have h1 := VW_lt O.si.iv
      have h2 := O.si.ln
      have h3 : 2 ^ s'.many.toNat ≤ 2 ^ 16 := Nat.pow_le_pow_right (by decide) (by rw [O.many, hm]; omega)
      have h4 : (2 : Nat) ^ 16 = 65536 := by decide
      omega
    have hin : ∀ c ∈ s'.ln, c ∈ s'.cl := fun c hc => by rw [O.si.cl]; exact List.mem_append_right _ hc
    refine k1 H' A' s' G' (fun c hc => G'.cls c (hin c hc)) hlen ⟨st, fun c hc => ?_, ⟨_, rfl⟩, by rw [List.length_append, List.length_map]; simp; omega, by
      have h1 := VW_lt O.si.iv
      have h2 := O.si.ln
      have h5 : s'.many = many := O.many.trans hm
      rw [h5] at h1
      rw [List.length_append, List.length_map]; simp; omega⟩
    rcases List.mem_append.mp hc with hc | hc
    · obtain ⟨y, hy, rfl⟩ := List.mem_map.mp hc
      have := O.si.iv.cl y (hin y hy)
      rwa [O.many, hm] at this
    · rw [List.mem_singleton.mp hc]; rfl
  · refine k2 H' A' s' q ys G' hq hq0 ⟨by rw [← hm]; exact hv, fun c hc => ?_⟩
    obtain ⟨y, hy, rfl⟩ := List.mem_map.mp hc
    exact hh y hy
section
variable {P : Program} {w : World} {K : PySem.W.Frag} {mg : Str → Option Value} {base : Heap}
theorem sc_solve : FnScope ["many", "clauses", "search", "found"] ["many", "clauses"] (defScope s_solve) := ⟨rfl, rfl, rfl, by decide +kernel, rfl, by decide +kernel, by decide +kernel⟩
theorem ok_solve (T : Tx K mg) (C_Search_solve : CalF P w K mg base ("Search", some "solve") 5 ["self"] (sp_Search_solve K)) (C_Search_init : CalF P w K mg base ("Search", some "__init__") 4 ["self", "many", "clauses"] (sp_Search_init K)) : CalF P w K mg base ("solve", none) 6 ["many", "clauses"] (sp_solve K) := by
  have mg_tuple : mg "tuple" = none := T.free 73
  obtain ⟨t_PAPER, mg_PAPER⟩ := T.str 78 (x := "PAPER") (z := "paper")
  obtain ⟨t_VALUES, mg_VALUES⟩ := T.str 77 (x := "VALUES") (z := "values")
  obtain ⟨fd_Search_solve, b_Search_solve, G_Search_solve, kp_Search_solve⟩ := C_Search_solve
  obtain ⟨fd_Search_init, b_Search_init, G_Search_init, kp_Search_init⟩ := C_Search_init
  have mt_Search_solve : Meth K (He.ga K "Search") "solve" (He.ma K (He.ga K "Search") "solve") := T.meth 101
  have mg_Search : mg "Search" = some (.ref (He.ga K "Search")) := T.glo 90
  have M_Search : Mk K (He.ga K "Search") (He.ma K (He.ga K "Search") "__init__") := T.mkr 91
  have cl_Search : Cls K (He.ga K "Search") := T.cls 89
  have no_Search_learnt : NoAttr K (He.ga K "Search") "learnt" := T.noat 107
  refine calF T (d := d_solve) 26 rfl sc_solve rfl rfl (fun _ _ _ _ _ _ us hl => match us, hl with | [_, _], _ => rfl) (len_solve K) ?_
  intro cdv A outer s H vs Q E hr h
  have hu := hu_of hr
  obtain ⟨v, many, as, rfl, S0, k1, k2⟩ := h
  refine ⟨_, (pss_cons (ps_set (i := 2) sc_solve.nd rfl (Or.inl rfl) (pe_make M_Search G_Search_init (hr.mono (by decide)) (by rfl) mg_Search b_Search_init .nil pass0 (pa_cons (pv 0) (pa_cons (pv 1) pa_nil))))
      (pss_cons (ps_set (i := 3) sc_solve.nd rfl (Or.inl rfl) (pe_meth0 (pv 2) cl_Search mt_Search_solve G_Search_solve (hr.mono (by decide)) b_Search_solve .nil pass0))
      (pss_one (ps_ret (pe_ifExp (pt_cmpR op_isN (pv 3) pe_non (nomark _)) (pe_tup (pa_cons (pe_glob (v := .str "paper") (by rfl) mg_PAPER ⟨_, rfl⟩) (pa_cons (pe_tup (pa_starK (K := K) rfl (pe_fld2 cl_Search no_Search_learnt (pv 2)) (pa_cons (pe_tup pa_nil) pa_nil))) pa_nil))) (pe_tup (pa_cons (pe_glob (v := .str "values") (by rfl) mg_VALUES ⟨_, rfl⟩) (pa_cons (pe_callTy call_tuple2 (by rfl) mg_tuple bt_tuple (pa_cons (pv 3) pa_nil)) pa_nil)))))))), ?_⟩
  refine ⟨_, rfl, _, rfl, fun x dx hx hdx hn => init_ask S0 hx hdx hn fun H1 A1 s1 G1 O1 => ⟨rfl, ?_⟩⟩
  refine ⟨_, rfl, x, _, _, rfl, G1.ins, rfl, ?_⟩
  unfold tNil
  refine (?_ : sp_Search_solve K [V.ref x] _ _ _)
  refine solve_ask G1 O1.si O1.many S0.hi S0.len (fun H2 A2 s2 G2 c2 l2 P2 => ?_) fun H2 A2 s2 q ys G2 hq hq0 V2 => ?_
  · refine ⟨_, rfl, rfl, _, rfl, iteT ?_⟩
    have c2l : s2.ln.length ≤ 65535 := l2
    refine ⟨_, rfl, _, _, _, _, rfl, G2.ins, rfl, A2.e, _, rfl, .inr (SqL.of G2.he), Nat.zero_le _, fun e he => ⟨?_, fun b hb => ⟨by show 2 ≤ sizeLine; decide, fun t ht => ?_⟩⟩⟩
    · rw [List.length_append, List.length_map]
      have : sizeLine = 16777216 := rfl
      show s2.ln.length + 1 ≤ _
      omega
    · have g1 := Same.new (o := .tup []) he
      have g2 := Same.new (o := .tup (s2.ln.map rf ++ [.ref e])) hb
      have g3 := Same.new (o := .tup [.str "paper", .ref b]) ht
      have g23 := g2.trans g3
      have hb3 := g3 _ _ (upd_same (H := upd H2 e (.tup [])) (a := b) (o := .tup (s2.ln.map rf ++ [.ref e])))
      refine k1 _ t b (s2.ln ++ [(e, [])]) (G2.same.trans (g1.trans g23)) upd_same (by rw [List.map_append]; exact hb3) (fun y hy => ?_) (by rw [List.map_append]; exact P2)
      rcases List.mem_append.mp hy with hy | hy
      · exact (g1.trans g23) _ _ (c2 y hy)
      · rw [List.mem_singleton.mp hy]; exact g23 _ _ upd_same
  · refine ⟨_, rfl, rfl, _, rfl, iteF ?_⟩
    refine ⟨_, rfl, q, _, rfl, hq, fun b hb => ⟨by show 2 ≤ sizeLine; decide, fun t ht => ?_⟩⟩
    have g2 := Same.new (o := .tup (ys.map V.int)) hb
    have g3 := Same.new (o := .tup [.str "values", .ref b]) ht
    exact k2 _ t b ys (G2.same.trans (g2.trans g3)) upd_same (g3 _ _ upd_same) V2
theorem sc_solve_up : FnScope ["many", "clauses", "search"] ["many", "clauses"] (defScope s_solve_up) := ⟨rfl, rfl, rfl, by decide +kernel, rfl, by decide +kernel, by decide +kernel⟩
theorem ok_solve_up (T : Tx K mg) (C_Search_solve : CalF P w K mg base ("Search", some "solve") 5 ["self"] (sp_Search_solve K)) (C_Search_init : CalF P w K mg base ("Search", some "__init__") 4 ["self", "many", "clauses"] (sp_Search_init K)) : CalF P w K mg base ("solve_up", none) 6 ["many", "clauses"] (sp_solve_up K) := by
  obtain ⟨fd_Search_solve, b_Search_solve, G_Search_solve, kp_Search_solve⟩ := C_Search_solve
  obtain ⟨fd_Search_init, b_Search_init, G_Search_init, kp_Search_init⟩ := C_Search_init
  have mt_Search_solve : Meth K (He.ga K "Search") "solve" (He.ma K (He.ga K "Search") "solve") := T.meth 101
  have mg_Search : mg "Search" = some (.ref (He.ga K "Search")) := T.glo 90
  have M_Search : Mk K (He.ga K "Search") (He.ma K (He.ga K "Search") "__init__") := T.mkr 91
  have cl_Search : Cls K (He.ga K "Search") := T.cls 89
  have no_Search_up : NoAttr K (He.ga K "Search") "up" := T.noat 115
  refine calF T (d := d_solve_up) 27 rfl sc_solve_up rfl rfl (fun _ _ _ _ _ _ us hl => match us, hl with | [_, _], _ => rfl) (len_solve_up K) ?_
  intro cdv A outer s H vs Q E hr h
  have hu := hu_of hr
  obtain ⟨v, many, as, rfl, S0, k1, k2⟩ := h
  refine ⟨_, (pss_cons (ps_set (i := 2) sc_solve_up.nd rfl (Or.inl rfl) (pe_make M_Search G_Search_init (hr.mono (by decide)) (by rfl) mg_Search b_Search_init .nil pass0 (pa_cons (pv 0) (pa_cons (pv 1) pa_nil))))
      (pss_cons (ps_fld2 cl_Search no_Search_up (pv 2) pe_bl rfl)
      (pss_one (ps_ret (pe_meth0 (pv 2) cl_Search mt_Search_solve G_Search_solve (hr.mono (by decide)) b_Search_solve .nil pass0))))), ?_⟩
  refine ⟨_, rfl, _, rfl, fun x dx hx hdx hn => init_ask S0 hx hdx hn fun H1 A1 s1 G1 O1 => ⟨rfl, ?_⟩⟩
  refine ⟨_, rfl, x, _, _, rfl, G1.ins, by show 13 < 1000; decide, ?_⟩
  have G2 := G1.updP s1.at_ s1.ks s1.lo true
  have I1 := O1.iv
  have S1 := O1.si
  have I2 : Iv { s1 with up := true } := ⟨I1.lo0, I1.hi, I1.cl, I1.inr, I1.nd, I1.mkp, I1.mklt, I1.lev, I1.rsn, I1.rin, I1.quiet, I1.ks, I1.at_, I1.atm, I1.low1, I1.low⟩
  have S2 : SI as { s1 with up := true } := ⟨I2, S1.pn, S1.cl, S1.steps, S1.ln⟩
  refine ⟨_, rfl, x, _, _, rfl, G2.ins, rfl, ?_⟩
  unfold tNil
  refine (?_ : sp_Search_solve K [V.ref x] _ _ _)
  refine solve_ask G2 S2 O1.many S0.hi S0.len (fun H3 A3 s3 G3 c3 l3 P3 => ?_) fun H3 A3 s3 q ys G3 hq hq0 V3 => ?_
  · exact k1 H3 _ G3.same P3
  · exact k2 H3 q ys G3.same hq V3
theorem sc_can_hold : FnScope ["many", "clauses"] ["many", "clauses"] (defScope s_can_hold) := ⟨rfl, rfl, rfl, by decide +kernel, rfl, by decide +kernel, by decide +kernel⟩
theorem ok_can_hold (T : Tx K mg) (C_Search_solve : CalF P w K mg base ("Search", some "solve") 5 ["self"] (sp_Search_solve K)) (C_Search_init : CalF P w K mg base ("Search", some "__init__") 4 ["self", "many", "clauses"] (sp_Search_init K)) : CalF P w K mg base ("can_hold", none) 6 ["many", "clauses"] (sp_can_hold K) := by
  obtain ⟨fd_Search_solve, b_Search_solve, G_Search_solve, kp_Search_solve⟩ := C_Search_solve
  obtain ⟨fd_Search_init, b_Search_init, G_Search_init, kp_Search_init⟩ := C_Search_init
  have mt_Search_solve : Meth K (He.ga K "Search") "solve" (He.ma K (He.ga K "Search") "solve") := T.meth 101
  have mg_Search : mg "Search" = some (.ref (He.ga K "Search")) := T.glo 90
  have M_Search : Mk K (He.ga K "Search") (He.ma K (He.ga K "Search") "__init__") := T.mkr 91
  have cl_Search : Cls K (He.ga K "Search") := T.cls 89
  refine calF T (d := d_can_hold) 28 rfl sc_can_hold rfl rfl (fun _ _ _ _ _ _ us hl => match us, hl with | [_, _], _ => rfl) (len_can_hold K) ?_
  intro cdv A outer s H vs Q E hr h
  have hu := hu_of hr
  obtain ⟨v, many, as, rfl, S0, k1, k2⟩ := h
  refine ⟨_, (pss_one (ps_ret (pe_cmpR op_notN (pe_meth0 (pe_make M_Search G_Search_init (hr.mono (by decide)) (by rfl) mg_Search b_Search_init .nil pass0 (pa_cons (pv 0) (pa_cons (pv 1) pa_nil))) cl_Search mt_Search_solve G_Search_solve (hr.mono (by decide)) b_Search_solve .nil pass0) pe_non (nomark _)))), ?_⟩
  refine ⟨_, rfl, _, rfl, fun x dx hx hdx hn => init_ask S0 hx hdx hn fun H1 A1 s1 G1 O1 => ⟨rfl, ?_⟩⟩
  refine ⟨x, _, _, rfl, G1.ins, rfl, ?_⟩
  unfold tNil
  refine (?_ : sp_Search_solve K [V.ref x] _ _ _)
  refine solve_ask G1 O1.si O1.many S0.hi S0.len (fun H3 A3 s3 G3 c3 l3 P3 => ?_) fun H3 A3 s3 q ys G3 hq hq0 V3 => ?_
  · exact ⟨rfl, k1 H3 _ G3.same P3⟩
  · exact ⟨rfl, k2 H3 ys G3.same V3⟩
end
end Nt
set_option maxRecDepth 100000
set_option maxHeartbeats 1000000
/-! NtW: units told, papers, what is solved. -/
namespace Nt
open PySem PySem.Spec PyProof.Rows L2
/-- a bundle of few numbers -/
structure BdS (H : Hp) (v : V) (many : Int) (as : List Cl) : Prop where
  bd : Bd H v many as
  lo : 0 ≤ many
  hi : many ≤ 16
  cl : ∀ x ∈ as, isCl many x.2 = true
  len : as.length ≤ 30000
theorem BdS.mono {H H' : Hp} {v : V} {many : Int} {as : List Cl} (h : BdS H v many as) (s : Same H H') : BdS H' v many as := ⟨h.bd.mono s, h.lo, h.hi, h.cl, h.len⟩
theorem BdS.ok {H : Hp} {v : V} {many : Int} {as : List Cl} (h : BdS H v many as) : BdOk many (as.map (·.2)) :=
  ⟨h.lo, Int.le_trans h.hi (by decide), by rw [List.length_map]; exact h.len, fun c hc => by
    obtain ⟨x, hx, rfl⟩ := List.mem_map.mp hc
    exact h.cl x hx, fun c hc => by
    obtain ⟨x, hx, rfl⟩ := List.mem_map.mp hc
    have := isCl_len h.lo (h.cl x hx)
    have := h.hi
    omega⟩
/-- a paper of the bundle -/
def IsPaper (many : Int) (cs ps : List (List Int)) : Prop := (∃ qs, ps = qs ++ [[]]) ∧ (∀ c ∈ ps, isCl many c = true) ∧ Steps cs ps
theorem PaperOk.is {many : Int} {cs ps : List (List Int)} (h : PaperOk many cs ps) : IsPaper many cs ps := ⟨h.last, h.cl, h.steps⟩
def sp_holds_all (K : PySem.W.Frag) : Sp := fun vs H Q _ => ∃ (v : V) (many : Int) (as : List Cl) (a : Addr) (ns : List Int), vs = [v, .ref a] ∧ BdS H v many as ∧ H a = some (.tup (ns.map V.int)) ∧ ns.length ≤ 100000 ∧ ∀ H', Same H H' → Q (.bl (isVal many ns && doHold (as.map (·.2)) ns)) H'
theorem len_holds_all (K : PySem.W.Frag) : ∀ vs H Q E, sp_holds_all K vs H Q E → vs.length = 2 := by
  rintro vs H Q E ⟨v, m, as, a, ns, rfl, _⟩; rfl
def sp_is_given (K : PySem.W.Frag) : Sp := fun vs H Q _ => ∃ (v : V) (many : Int) (as : List Cl) (a : Addr) (gs : List Int), vs = [v, .ref a] ∧ BdS H v many as ∧ H a = some (.tup (gs.map V.int)) ∧ isCl many gs = true ∧ ∀ H', Same H H' → Q (.bl true) H'
theorem len_is_given (K : PySem.W.Frag) : ∀ vs H Q E, sp_is_given K vs H Q E → vs.length = 2 := by
  rintro vs H Q E ⟨v, m, as, a, gs, rfl, _⟩; rfl
def sp_units_told (K : PySem.W.Frag) : Sp := fun vs H Q _ => ∃ (v : V) (many : Int) (as : List Cl) (a : Addr) (gs : List Int), vs = [v, .ref a] ∧ BdS H v many as ∧ H a = some (.tup (gs.map V.int)) ∧ isCl many gs = true ∧
  (∀ H' t b S, Same H H' → H' t = some (.tup [.str "sure", .ref b]) → H' b = some (.tup ((srt S).map V.int)) → RunOk (as.map (·.2)) gs S none → Q (.ref t) H') ∧
  ∀ H' t b c S, Same H H' → H' t = some (.tup [.str "clash", .ref b]) → H' b = some (.tup (c.map V.int)) → RunOk (as.map (·.2)) gs S (some c) → Q (.ref t) H'
theorem len_units_told (K : PySem.W.Frag) : ∀ vs H Q E, sp_units_told K vs H Q E → vs.length = 2 := by
  rintro vs H Q E ⟨v, m, as, a, gs, rfl, _⟩; rfl
def sp_is_by_units (K : PySem.W.Frag) : Sp := fun vs H Q _ => ∃ (p a : Addr) (H0 : Hp) (many : Int) (as : List Cl) (ns : List Int), vs = [.ref p, .ref a] ∧ UAt K H0 H p many as ∧ H a = some (.tup (ns.map V.int)) ∧ isCl many ns = true ∧
  ∀ H' b, Same H H' → (b = true ↔ Rup (as.map (·.2)) ns) → Q (.bl b) H'
theorem len_is_by_units (K : PySem.W.Frag) : ∀ vs H Q E, sp_is_by_units K vs H Q E → vs.length = 2 := by
  rintro vs H Q E ⟨p, a, H0, many, as, ns, rfl, _⟩; rfl
def sp_are_steps (K : PySem.W.Frag) : Sp := fun vs H Q _ => ∃ (v : V) (many : Int) (as ps : List Cl) (a : Addr), vs = [v, .ref a] ∧ BdS H v many as ∧ H a = some (.tup (ps.map rf)) ∧ CLs H ps ∧ (∀ x ∈ ps, isCl many x.2 = true) ∧ ps.length ≤ 66000 ∧
  ∀ H' b, Same H H' → (b = true ↔ Steps (as.map (·.2)) (ps.map (·.2))) → Q (.bl b) H'
theorem len_are_steps (K : PySem.W.Frag) : ∀ vs H Q E, sp_are_steps K vs H Q E → vs.length = 2 := by
  rintro vs H Q E ⟨v, many, as, ps, a, rfl, _⟩; rfl
def sp_is_paper_of (K : PySem.W.Frag) : Sp := fun vs H Q _ => ∃ (v : V) (many : Int) (as ps : List Cl) (a : Addr), vs = [v, .ref a] ∧ BdS H v many as ∧ H a = some (.tup (ps.map rf)) ∧ CLs H ps ∧ ps.length ≤ 66000 ∧ (∀ x ∈ ps, x.2.length ≤ 100000) ∧
  ∀ H' b, Same H H' → (b = true ↔ IsPaper many (as.map (·.2)) (ps.map (·.2))) → Q (.bl b) H'
theorem len_is_paper_of (K : PySem.W.Frag) : ∀ vs H Q E, sp_is_paper_of K vs H Q E → vs.length = 2 := by
  rintro vs H Q E ⟨v, many, as, ps, a, rfl, _⟩; rfl
def sp_is_paper (K : PySem.W.Frag) : Sp := sp_is_paper_of K
theorem len_is_paper (K : PySem.W.Frag) : ∀ vs H Q E, sp_is_paper K vs H Q E → vs.length = 2 := len_is_paper_of K
def sp_solve_told (K : PySem.W.Frag) : Sp := fun vs H Q _ => ∃ (v : V) (many : Int) (as : List Cl), vs = [v] ∧ BdS H v many as ∧
  (∀ H' t b ln, Same H H' → H' t = some (.tup [.str "paper", .ref b]) → H' b = some (.tup (ln.map rf)) → CLs H' ln → PaperOk many (as.map (·.2)) (ln.map (·.2)) → Q (.ref t) H') ∧
  ∀ H' t b ys, Same H H' → H' t = some (.tup [.str "values", .ref b]) → H' b = some (.tup (ys.map V.int)) → ValsOk many (as.map (·.2)) ys → Q (.ref t) H'
theorem len_solve_told (K : PySem.W.Frag) : ∀ vs H Q E, sp_solve_told K vs H Q E → vs.length = 1 := by
  rintro vs H Q E ⟨v, many, as, rfl, _⟩; rfl
def sp_is_solved (K : PySem.W.Frag) : Sp := fun vs H Q _ => ∃ (v : V) (many : Int) (as : List Cl) (t b : Addr), vs = [v, .ref t] ∧ BdS H v many as ∧
  ((∃ ns : List Int, H t = some (.tup [.str "values", .ref b]) ∧ H b = some (.tup (ns.map V.int)) ∧ ns.length ≤ 100000 ∧ ∀ H', Same H H' → Q (.bl (isVal many ns && doHold (as.map (·.2)) ns)) H') ∨
   ∃ ps : List Cl, H t = some (.tup [.str "paper", .ref b]) ∧ H b = some (.tup (ps.map rf)) ∧ CLs H ps ∧ ps.length ≤ 66000 ∧ (∀ x ∈ ps, x.2.length ≤ 100000) ∧ ∀ H' r, Same H H' → (r = true ↔ IsPaper many (as.map (·.2)) (ps.map (·.2))) → Q (.bl r) H')
theorem len_is_solved (K : PySem.W.Frag) : ∀ vs H Q E, sp_is_solved K vs H Q E → vs.length = 2 := by
  rintro vs H Q E ⟨v, many, as, t, b, rfl, _⟩; rfl
def sp_shows_solved (K : PySem.W.Frag) : Sp := sp_is_solved K
theorem len_shows_solved (K : PySem.W.Frag) : ∀ vs H Q E, sp_shows_solved K vs H Q E → vs.length = 2 := len_is_solved K
/-- units just made -/
theorem units_ask {K : PySem.W.Frag} {H : Hp} {Q : VK} {E : XK} {v x dx : Addr} {many : Int} {as : List Cl} (hv : H v = some (.lst (as.map rf)) ∨ H v = some (.tup (as.map rf))) (hc : CLs H as) (lo : 0 ≤ many) (hi : many ≤ 30) (hcl : ∀ x ∈ as, isCl many x.2 = true) (hl : as.length ≤ 30000)
    (hx : H x = none) (hdx : H dx = none) (hn : dx ≠ x) (k : ∀ H', UAt K H H' x many as → Q .non H') :
    sp_Units_init K [.ref x, .ref v] (upd (upd H dx (.own x)) x (.ins (He.ga K "Units") dx [])) Q E :=
  ⟨x, v, dx, H, many, as, rfl, (Same.new hdx).trans (Same.new (by rw [upd_ne hn.symm]; exact hx)), hx, upd_same, hv, hc, lo, hi, hcl, Nat.le_trans hl (by decide), k⟩
section
variable {P : Program} {w : World} {K : PySem.W.Frag} {mg : Str → Option Value} {base : Heap}
theorem sc_is_given : FnScope ["bundle", "value"] ["bundle", "value"] (defScope s_is_given) := ⟨rfl, rfl, rfl, by decide +kernel, rfl, by decide +kernel, by decide +kernel⟩
theorem ok_is_given (T : Tx K mg) (C_is_clause : CalF P w K mg base ("is_clause", none) 2 ["many", "value"] (sp_is_clause K)) : CalF P w K mg base ("is_given", none) 3 ["bundle", "value"] (sp_is_given K) := by
  obtain ⟨fd_is_clause, b_is_clause, G_is_clause, kp_is_clause⟩ := C_is_clause
  have mg_is_clause : mg "is_clause" = some (.ref (He.ga K "is_clause")) := T.glo 3
  refine calF T (d := d_is_given) 12 rfl sc_is_given rfl rfl (fun _ _ _ _ _ _ us hl => match us, hl with | [_, _], _ => rfl) (len_is_given K) ?_
  intro cdv A outer s H vs Q E hr h
  have hu := hu_of hr
  obtain ⟨v, many, as, a, gs, rfl, B, ha, hg, k⟩ := h
  obtain ⟨x, b, rfl, hx, hb⟩ := B.bd.at_
  refine ⟨_, (pss_one (ps_ret (pe_call G_is_clause (hr.mono (by decide)) (by rfl) mg_is_clause kp_is_clause b_is_clause .nil pass0 (pa_cons (pe_ix ix_tup2 (pv 0) pe_int (fun _ _ => rfl)) (pa_cons (pv 1) pa_nil))))), ?_⟩
  refine ⟨_, rfl, _, _, _, _, rfl, rfl, hx, rfl, _, rfl, many, a, gs, rfl, ha, ?_, fun H1 s1 => ?_⟩
  · have := isCl_len B.lo hg
    have := B.hi
    omega
  · rw [hg]; exact k H1 s1
theorem sc_solve_told : FnScope ["bundle"] ["bundle"] (defScope s_solve_told) := ⟨rfl, rfl, rfl, by decide +kernel, rfl, by decide +kernel, by decide +kernel⟩
theorem ok_solve_told (T : Tx K mg) (C_check_bundle : CalF P w K mg base ("check_bundle", none) 4 ["bundle"] (sp_check_bundle K)) (C_solve : CalF P w K mg base ("solve", none) 6 ["many", "clauses"] (sp_solve K)) : CalF P w K mg base ("solve_told", none) 7 ["bundle"] (sp_solve_told K) := by
  obtain ⟨fd_check_bundle, b_check_bundle, G_check_bundle, kp_check_bundle⟩ := C_check_bundle
  obtain ⟨fd_solve, b_solve, G_solve, kp_solve⟩ := C_solve
  have mg_check_bundle : mg "check_bundle" = some (.ref (He.ga K "check_bundle")) := T.glo 5
  have mg_solve : mg "solve" = some (.ref (He.ga K "solve")) := T.glo 10
  refine calF T (d := d_solve_told) 33 rfl sc_solve_told rfl rfl (fun _ _ _ _ _ _ us hl => match us, hl with | [_], _ => rfl) (len_solve_told K) ?_
  intro cdv A outer s H vs Q E hr h
  have hu := hu_of hr
  obtain ⟨v, many, as, rfl, B, k1, k2⟩ := h
  refine ⟨_, (pss_cons (ps_expr (pe_call G_check_bundle (hr.mono (by decide)) (by rfl) mg_check_bundle kp_check_bundle b_check_bundle .nil pass0 (pa_cons (pv 0) pa_nil)))
      (pss_one (ps_ret (pe_call G_solve (hr.mono (by decide)) (by rfl) mg_solve kp_solve b_solve .nil pass0 (pa_cons (pe_ix ix_tup2 (pv 0) pe_int (fun _ _ => rfl)) (pa_cons (pe_ix ix_tup2 (pv 0) pe_int (fun _ _ => rfl)) pa_nil)))))), ?_⟩
  refine ⟨_, rfl, v, many, as, rfl, B.bd, B.ok, fun H1 s1 => ?_⟩
  have B1 := B.mono s1
  obtain ⟨x, b, rfl, hx, hb⟩ := B1.bd.at_
  exact ⟨_, rfl, _, _, _, _, rfl, rfl, hx, rfl, _, rfl, _, _, _, _, rfl, rfl, hx, rfl, b, many, as, rfl, ⟨.inr hb, B1.bd.cls, B.lo, B.hi, B.cl, B.len⟩, fun H2 t c ln s2 h1 h2 h3 h4 => k1 H2 t c ln (s1.trans s2) h1 h2 h3 h4, fun H2 t c ys s2 h1 h2 h3 => k2 H2 t c ys (s1.trans s2) h1 h2 h3⟩
theorem sc_units_told : FnScope ["bundle", "given", "sure", "clause"] ["bundle", "given"] (defScope s_units_told) := ⟨rfl, rfl, rfl, by decide +kernel, rfl, by decide +kernel, by decide +kernel⟩
theorem ok_units_told (T : Tx K mg) (C_check_bundle : CalF P w K mg base ("check_bundle", none) 4 ["bundle"] (sp_check_bundle K)) (C_is_given : CalF P w K mg base ("is_given", none) 3 ["bundle", "value"] (sp_is_given K)) (C_Units_run : CalF P w K mg base ("Units", some "run") 2 ["self", "given"] (sp_Units_run K)) (C_Units_init : CalF P w K mg base ("Units", some "__init__") 2 ["self", "clauses"] (sp_Units_init K)) : CalF P w K mg base ("units_told", none) 5 ["bundle", "given"] (sp_units_told K) := by
  have mg_tuple : mg "tuple" = none := T.free 73
  have mg_sorted : mg "sorted" = none := T.free 69
  obtain ⟨fd_check_bundle, b_check_bundle, G_check_bundle, kp_check_bundle⟩ := C_check_bundle
  obtain ⟨fd_is_given, b_is_given, G_is_given, kp_is_given⟩ := C_is_given
  obtain ⟨fd_Units_run, b_Units_run, G_Units_run, kp_Units_run⟩ := C_Units_run
  obtain ⟨fd_Units_init, b_Units_init, G_Units_init, kp_Units_init⟩ := C_Units_init
  have mg_check_bundle : mg "check_bundle" = some (.ref (He.ga K "check_bundle")) := T.glo 5
  have mg_is_given : mg "is_given" = some (.ref (He.ga K "is_given")) := T.glo 8
  have mt_Units_run : Meth K (He.ga K "Units") "run" (He.ma K (He.ga K "Units") "run") := T.meth 84
  have mg_Units : mg "Units" = some (.ref (He.ga K "Units")) := T.glo 81
  have M_Units : Mk K (He.ga K "Units") (He.ma K (He.ga K "Units") "__init__") := T.mkr 82
  have cl_Units : Cls K (He.ga K "Units") := T.cls 80
  refine calF T (d := d_units_told) 13 rfl sc_units_told rfl rfl (fun _ _ _ _ _ _ us hl => match us, hl with | [_, _], _ => rfl) (len_units_told K) ?_
  intro cdv A outer s H vs Q E hr h
  have hu := hu_of hr
  obtain ⟨v, many, as, a, gs, rfl, B, ha, hg, k1, k2⟩ := h
  refine ⟨_, (pss_cons (ps_expr (pe_call G_check_bundle (hr.mono (by decide)) (by rfl) mg_check_bundle kp_check_bundle b_check_bundle .nil pass0 (pa_cons (pv 0) pa_nil)))
      (pss_cons (ps_if (pt_not (pt_val (pe_call G_is_given (hr.mono (by decide)) (by rfl) mg_is_given kp_is_given b_is_given .nil pass0 (pa_cons (pv 0) (pa_cons (pv 1) pa_nil))))) (pss_one (ps_never (st := _))) pss_nil)
      (pss_cons (ps_asg (pe_meth (pe_make M_Units G_Units_init (hr.mono (by decide)) (by rfl) mg_Units b_Units_init .nil pass0 (pa_cons (pe_ix ix_tup2 (pv 0) pe_int (fun _ _ => rfl)) pa_nil)) cl_Units mt_Units_run G_Units_run (hr.mono (by decide)) b_Units_run .nil pass0 (pa_cons (pv 1) pa_nil)) (pg_tup rfl (pgs_cons (pg_name (i := 2) sc_units_told.nd rfl (Or.inl rfl)) (pgs_cons (pg_name (i := 3) sc_units_told.nd rfl (Or.inl rfl)) pgs_nil))))
      (pss_one (ps_ret (pe_ifExp (pt_cmpR op_isN (pv 3) pe_non (nomark _)) (pe_tup (pa_cons pe_str (pa_cons (pe_callTy call_tuple2 (by rfl) mg_tuple bt_tuple (pa_cons (pe_callB (call_sortedDI rfl) (by rfl) mg_sorted bt_sorted (pa_cons (pv 2) pa_nil)) pa_nil)) pa_nil))) (pe_tup (pa_cons pe_str (pa_cons (pv 3) pa_nil))))))))), ?_⟩
  refine ⟨_, rfl, v, many, as, rfl, B.bd, B.ok, fun H1 s1 => ?_⟩
  refine ⟨_, rfl, _, rfl, v, many, as, a, gs, rfl, B.mono s1, s1 _ _ ha, hg, fun H2 s2 => ⟨_, rfl, iteF ?_⟩⟩
  have s12 := s1.trans s2
  have B2 := B.mono s12
  obtain ⟨x, b, rfl, hx, hb⟩ := B2.bd.at_
  have hgr := (isCl_iff.mp hg).1
  have hi := B.hi
  have lo := B.lo
  refine ⟨_, rfl, _, _, _, _, rfl, rfl, hx, rfl, fun y dy hy hdy hn => units_ask (.inr hb) B2.bd.cls lo (by omega) B.cl B.len hy hdy hn fun H3 U3 => ⟨rfl, ?_⟩⟩
  obtain ⟨dx', a', b', c', kvs', m1, m2, m3, m4, m5, m6, m7⟩ := U3.own
  refine ⟨y, _, _, rfl, m6, rfl, _, rfl, y, a, H2, many, as, gs, rfl, U3, .inr (U3.same _ _ (s12 _ _ ha)), hgr, by have := isCl_len lo hg; omega, fun H4 t d S o ov s4 ht hd ho R hS => ?_⟩
  have S14 : Same H H4 := s12.trans (U3.same.trans s4)
  refine ⟨t, _, rfl, SqT.of ht, rfl, _, _, rfl, _, _, rfl, rfl, ?_⟩
  have h61 : S.length ≤ 61 := Nat.le_trans (len_lits lo R.nd hS) (by omega)
  rcases ho with ⟨rfl, rfl⟩ | ⟨q, c, rfl, rfl, hq⟩
  · refine ⟨_, rfl, rfl, _, rfl, iteT ?_⟩
    refine ⟨_, rfl, d, _, S, rfl, .inl hd, by rw [List.map_map]; rfl, by omega, fun ys l hp ho hl => ?_⟩
    have g1 := Same.new (o := .lst (ys.map V.int)) hl
    refine ⟨l, _, rfl, upd_same, fun b2 hb2 => ⟨by show 2 ≤ sizeLine; decide, fun t2 ht2 => ?_⟩⟩
    have g2 := Same.new (o := .tup (ys.map V.int)) hb2
    have g3 := Same.new (o := .tup [.str "sure", .ref b2]) ht2
    refine k1 _ t2 b2 S (S14.trans (g1.trans (g2.trans g3))) upd_same ?_ R
    rw [← srt_one hp ho]
    exact g3 _ _ upd_same
  · refine ⟨_, rfl, rfl, _, rfl, iteF ?_⟩
    refine ⟨_, rfl, by show 2 ≤ sizeLine; decide, fun t2 ht2 => ?_⟩
    have g3 := Same.new (o := .tup [.str "clash", .ref q]) ht2
    exact k2 _ t2 q c S (S14.trans g3) upd_same (g3 _ _ hq) R
theorem sc_is_by_units : FnScope ["units", "clause", "one"] ["units", "clause"] (defScope s_is_by_units) := ⟨rfl, rfl, rfl, by decide +kernel, rfl, by decide +kernel, by decide +kernel⟩
theorem ok_is_by_units (T : Tx K mg) (C_Units_run : CalF P w K mg base ("Units", some "run") 2 ["self", "given"] (sp_Units_run K)) : CalF P w K mg base ("is_by_units", none) 3 ["units", "clause"] (sp_is_by_units K) := by
  obtain ⟨fd_Units_run, b_Units_run, G_Units_run, kp_Units_run⟩ := C_Units_run
  have mt_Units_run : Meth K (He.ga K "Units") "run" (He.ma K (He.ga K "Units") "run") := T.meth 84
  have cl_Units : Cls K (He.ga K "Units") := T.cls 80
  refine calF T (d := d_is_by_units) 29 rfl sc_is_by_units rfl rfl (fun _ _ _ _ _ _ us hl => match us, hl with | [_, _], _ => rfl) (len_is_by_units K) ?_
  intro cdv A outer s H vs Q E hr h
  have hu := hu_of hr
  obtain ⟨p, a, H0, many, as, ns, rfl, U, ha, hn, k⟩ := h
  obtain ⟨dx', a', b', c', kvs', m1, m2, m3, m4, m5, m6, m7⟩ := U.own
  have hi := U.hi
  have lo := U.lo
  have hl := isCl_len lo hn
  refine ⟨_, (pss_one (ps_ret (pe_cmpR op_notN (pe_ix ix_tup2 (pe_meth (pv 0) cl_Units mt_Units_run G_Units_run (hr.mono (by decide)) b_Units_run .nil pass0 (pa_cons (pe_lc (own := [("one", 2)]) (g := gName 2) (tt := tYes) rfl sc_is_by_units.nd (pi_tupK (K := K) rfl (pv 1)) (blkOk_by (by kernel_rfl)) (fun _ _ _ _ _ => (pg_name (i := 2) sc_is_by_units.nd rfl (Or.inl rfl))) (fun _ _ _ _ _ => pts_nil) (fun _ _ _ _ _ => (pe_op op_sub pe_int (pv 2)))) pa_nil)) pe_int (fun _ _ => rfl)) pe_non (nomark _)))), ?_⟩
  refine ⟨_, rfl, p, _, _, rfl, m6, rfl, _, rfl, a, rfl, ⟨_, SqT.of ha⟩, ?_⟩
  refine lcV0 ns _ (wkT ns V.int) yName (fun l => .int (0 - l)) (by omega) (by intro _; rfl) (fun H h => SqT.of (h _ _ ha)) ?_ ?_
  · intro l hl H1 s1 Qe q
    exact ⟨_, rfl, _, _, rfl, rfl, q _ (Same.refl _)⟩
  · intro D H1 _ s1 h1
    have U1 := U.grow s1
    have e : (ns.map fun l => V.int (0 - l)) = (ns.map fun l => -l).map V.int := by
      rw [List.map_map]
      refine List.map_congr_left fun l _ => ?_
      show V.int (0 - l) = V.int (-l)
      rw [Int.zero_sub]
    rw [e] at h1
    refine ⟨p, D, H0, many, as, _, rfl, U1, .inl h1, fun l hl => ?_, by rw [List.length_map]; omega, fun H2 t d S o ov s2 ht hd ho R hS => ?_⟩
    · obtain ⟨m, hm, rfl⟩ := List.mem_map.mp hl
      exact ((isCl_iff.mp hn).1 m hm).neg
    · refine ⟨t, _, 1, ov, rfl, rfl, ht, rfl, rfl, ?_⟩
      have r := R.iff
      rcases ho with ⟨rfl, rfl⟩ | ⟨q, c, rfl, rfl, hq⟩
      · exact k H2 false (s1.trans s2) r
      · exact k H2 true (s1.trans s2) r
theorem sc_are_steps : FnScope ["bundle", "steps", "units", "clause"] ["bundle", "steps"] (defScope s_are_steps) := ⟨rfl, rfl, rfl, by decide +kernel, rfl, by decide +kernel, by decide +kernel⟩
theorem ok_are_steps (T : Tx K mg) (C_is_by_units : CalF P w K mg base ("is_by_units", none) 3 ["units", "clause"] (sp_is_by_units K)) (C_Units_put : CalF P w K mg base ("Units", some "put") 1 ["self", "clause"] (sp_Units_put K)) (C_Units_init : CalF P w K mg base ("Units", some "__init__") 2 ["self", "clauses"] (sp_Units_init K)) : CalF P w K mg base ("are_steps", none) 4 ["bundle", "steps"] (sp_are_steps K) := by
  obtain ⟨fd_is_by_units, b_is_by_units, G_is_by_units, kp_is_by_units⟩ := C_is_by_units
  obtain ⟨fd_Units_put, b_Units_put, G_Units_put, kp_Units_put⟩ := C_Units_put
  obtain ⟨fd_Units_init, b_Units_init, G_Units_init, kp_Units_init⟩ := C_Units_init
  have mg_is_by_units : mg "is_by_units" = some (.ref (He.ga K "is_by_units")) := T.glo 13
  have mt_Units_put : Meth K (He.ga K "Units") "put" (He.ma K (He.ga K "Units") "put") := T.meth 83
  have mg_Units : mg "Units" = some (.ref (He.ga K "Units")) := T.glo 81
  have M_Units : Mk K (He.ga K "Units") (He.ma K (He.ga K "Units") "__init__") := T.mkr 82
  have cl_Units : Cls K (He.ga K "Units") := T.cls 80
  refine calF T (d := d_are_steps) 30 rfl sc_are_steps rfl rfl (fun _ _ _ _ _ _ us hl => match us, hl with | [_, _], _ => rfl) (len_are_steps K) ?_
  intro cdv A outer s H vs Q E hr h
  have hu := hu_of hr
  obtain ⟨v, many, as, ps, a, rfl, B, ha, hps, hcl, hl, k⟩ := h
  obtain ⟨x, b, rfl, hx, hb⟩ := B.bd.at_
  have hi := B.hi
  have lo := B.lo
  refine ⟨_, (pss_cons (ps_set (i := 2) sc_are_steps.nd rfl (Or.inl rfl) (pe_make M_Units G_Units_init (hr.mono (by decide)) (by rfl) mg_Units b_Units_init .nil pass0 (pa_cons (pe_ix ix_tup2 (pv 0) pe_int (fun _ _ => rfl)) pa_nil)))
      (pss_cons (ps_for PassesOwn.never rfl (pi_tupK (K := K) rfl (pv 1)) (pg_name (i := 3) sc_are_steps.nd rfl (Or.inl rfl)) (pss_cons (ps_if (pt_not (pt_val (pe_call G_is_by_units (hr.mono (by decide)) (by rfl) mg_is_by_units kp_is_by_units b_is_by_units .nil pass0 (pa_cons (pv 2) (pa_cons (pv 3) pa_nil))))) (pss_one (ps_ret pe_bl)) pss_nil)
      (pss_one (ps_expr (pe_meth (pv 2) cl_Units mt_Units_put G_Units_put (hr.mono (by decide)) b_Units_put .nil pass0 (pa_cons (pv 3) pa_nil))))))
      (pss_one (ps_ret pe_bl)))), ?_⟩
  refine ⟨_, rfl, _, _, _, _, rfl, rfl, hx, rfl, fun y dy hy hdy hn => units_ask (.inr hb) B.bd.cls lo (by omega) B.cl B.len hy hdy hn fun H1 U1 => ⟨rfl, ?_⟩⟩
  refine ⟨_, rfl, a, rfl, ⟨_, SqT.of (U1.same _ _ ha)⟩, ?_⟩
  have app : ∀ (l r : List Cl), Steps (as.map (·.2)) ((l ++ r).map (·.2)) ↔ Steps (as.map (·.2)) (l.map (·.2)) ∧ Steps ((as ++ l).map (·.2)) (r.map (·.2)) := by
    intro l
    rw [List.map_append]
    have key : ∀ (l : List Cl) (cs : List (List Int)) (r : List Cl), Steps cs ((l ++ r).map (·.2)) ↔ Steps cs (l.map (·.2)) ∧ Steps (cs ++ l.map (·.2)) (r.map (·.2)) := by
      intro l
      induction l with
      | nil => intro cs r; simp [Steps]
      | cons z l ih =>
        intro cs r
        show (Rup cs z.2 ∧ Steps (cs ++ [z.2]) ((l ++ r).map (·.2))) ↔ (Rup cs z.2 ∧ Steps (cs ++ [z.2]) (l.map (·.2))) ∧ _
        rw [ih, and_assoc, List.append_assoc]
        rfl
    exact fun r => key l _ r
  refine forA ps (fun σ x => σ.set 3 (some (rf x))) (wkT ps rf) (fun σ => yName) (fun don σ H2 => ∃ z, σ = [some (.ref x), some (.ref a), some (.ref y), z] ∧ UAt K H H2 y many (as ++ don) ∧ Steps (as.map (·.2)) (don.map (·.2))) ⟨none, rfl, by rw [List.append_nil]; exact U1, trivial⟩ (fun l σ H2 ⟨z, _, U, _⟩ => SqT.of (U.same _ _ ha)) ?_ ?_
  · rintro l z r σ H2 H3 e ⟨u, rfl, U2, st⟩ s3
    have U3 := U2.grow s3
    have hz : z ∈ ps := by rw [e]; simp
    have hz0 := hps z hz
    obtain ⟨dx', a', b', c', kvs', m1, m2, m3, m4, m5, m6, m7⟩ := U3.own
    refine ⟨_, rfl, _, rfl, y, z.1, H, many, as ++ l, z.2, rfl, U3, U3.same _ _ hz0, hcl z hz, fun H4 bb s4 hbb => ⟨_, rfl, ?_⟩⟩
    have U4 := U3.grow s4
    cases bb with
    | false =>
      refine iteT ?_
      refine k H4 false U4.same ⟨fun h => (by cases h), fun h => ?_⟩
      rw [e] at h
      have h2 := ((app l (z :: r)).mp h).2.1
      exact hbb.mpr h2
    | true =>
      refine iteF ?_
      obtain ⟨dx2, a2, b2, c2, kvs2, n1, n2, n3, n4, n5, n6, n7⟩ := U4.own
      refine ⟨_, rfl, y, _, _, rfl, n6, rfl, _, rfl, y, H, many, as ++ l, z, rfl, U4, hz0, hcl z hz, ?_, fun H5 U5 => ⟨_, rfl, by rw [← List.append_assoc]; exact U5, ?_⟩⟩
      · have h1 := B.len
        have h2 := congrArg List.length e
        rw [List.length_append, List.length_cons] at h2
        rw [List.length_append]; omega
      · exact (app l [z]).mpr ⟨st, hbb.mp rfl, trivial⟩
  · rintro σ H2 ⟨z, rfl, U2, st⟩
    exact k H2 true U2.same ⟨fun _ => st, fun _ => rfl⟩
theorem sc_is_paper_of : FnScope ["bundle", "value", "clause"] ["bundle", "value"] (defScope s_is_paper_of) := ⟨rfl, rfl, rfl, by decide +kernel, rfl, by decide +kernel, by decide +kernel⟩
theorem ok_is_paper_of (T : Tx K mg) (C_are_steps : CalF P w K mg base ("are_steps", none) 4 ["bundle", "steps"] (sp_are_steps K)) (C_is_clause : CalF P w K mg base ("is_clause", none) 2 ["many", "value"] (sp_is_clause K)) : CalF P w K mg base ("is_paper_of", none) 5 ["bundle", "value"] (sp_is_paper_of K) := by
  have mg_all : mg "all" = none := T.free 55
  have mg_isinstance : mg "isinstance" = none := T.free 61
  have mg_tuple : mg "tuple" = none := T.free 73
  obtain ⟨fd_are_steps, b_are_steps, G_are_steps, kp_are_steps⟩ := C_are_steps
  obtain ⟨fd_is_clause, b_is_clause, G_is_clause, kp_is_clause⟩ := C_is_clause
  have mg_are_steps : mg "are_steps" = some (.ref (He.ga K "are_steps")) := T.glo 14
  have mg_is_clause : mg "is_clause" = some (.ref (He.ga K "is_clause")) := T.glo 3
  refine calF T (d := d_is_paper_of) 31 rfl sc_is_paper_of rfl rfl (fun _ _ _ _ _ _ us hl => match us, hl with | [_, _], _ => rfl) (len_is_paper_of K) ?_
  intro cdv A outer s H vs Q E hr h
  have hu := hu_of hr
  obtain ⟨v, many, as, ps, a, rfl, B, ha, hps, hl, hsh, k⟩ := h
  obtain ⟨x, b, rfl, hx, hb⟩ := B.bd.at_
  refine ⟨_, (pss_cons (ps_if (PW.pt (pw_or (pt_not (pt_val (pe_callB call_isi2 (by rfl) mg_isinstance bt_isinstance (pa_cons (pv 1) (pa_cons (pe_bltn (v := .ty "tuple") (by rfl) mg_tuple bt_tuple rfl) pa_nil))))) (pw_or (pt_cmpR (op_eqE hr.units) (pv 1) (pe_tup pa_nil) (nomark _)) (pw_or1 (pt_cmpR (op_neE hr.units) (pe_ix ix_tup2 (pv 1) (pe_un un_neg pe_int) (fun _ _ => rfl)) (pe_tup pa_nil) (nomark _)))))) (pss_one (ps_ret pe_bl)) pss_nil)
      (pss_one (ps_ret (pe_and (pe_callB (cr_all2 rfl) (by rfl) mg_all bt_all (pa_cons (pe_lc (own := [("clause", 2)]) (g := gName 2) (tt := tYes) rfl sc_is_paper_of.nd (pi_tupK (K := K) rfl (pv 1)) (blkOk_by (by kernel_rfl)) (fun _ _ _ _ _ => (pg_name (i := 2) sc_is_paper_of.nd rfl (Or.inl rfl))) (fun _ _ _ _ _ => pts_nil) (fun _ _ _ _ _ => (pe_call G_is_clause (hr.mono (by decide)) (by rfl) mg_is_clause kp_is_clause b_is_clause .nil pass0 (pa_cons (pe_ix ix_tup2 (pv 0) pe_int (fun _ _ => rfl)) (pa_cons (pv 2) pa_nil))))) pa_nil)) (pe_one (pe_call G_are_steps (hr.mono (by decide)) (by rfl) mg_are_steps kp_are_steps b_are_steps .nil pass0 (pa_cons (pv 0) (pa_cons (pv 1) pa_nil)))))))), ?_⟩
  refine ⟨_, rfl, _, _, rfl, .inr (.inl ⟨a, _, rfl, rfl, .inl ⟨ha, _, rfl, iteF ?_⟩⟩)⟩
  refine ⟨_, rfl, Nat.zero_le _, fun e he => ?_⟩
  have g1 := Same.new (o := .tup []) he
  refine ⟨a, e, _, rfl, rfl, .inr ⟨g1 _ _ ha, upd_same⟩, dd_cls (hps.mono g1), _, rfl, ?_⟩
  have key : (∃ qs, ps.map (·.2) = qs ++ [[]]) ↔ ∃ qs c, ps = qs ++ [c] ∧ c.2 = [] := by
    constructor
    · rintro ⟨qs, h⟩
      rcases List.eq_nil_or_concat ps with e | ⟨L, c, e⟩
      · rw [e] at h
        have := congrArg List.length h
        simp at this
      · rw [List.concat_eq_append] at e
        rw [e, List.map_append] at h
        have h2 := List.append_inj_right' h rfl
        exact ⟨L, c, e, by simpa using h2⟩
    · rintro ⟨qs, c, e, h⟩
      exact ⟨qs.map (·.2), by rw [e, List.map_append]; simp [h]⟩
  rcases List.eq_nil_or_concat ps with e0 | ⟨L, c, e0⟩
  · rw [e0]
    refine iteT (iteT ?_)
    refine k _ false g1 ⟨fun h => (by cases h), fun h => ?_⟩
    obtain ⟨qs, c, e, _⟩ := key.mp h.1
    rw [e0] at e
    have := congrArg List.length e
    simp at this
  · rw [List.concat_eq_append] at e0
    have ene : (ps.map rf).isEmpty = false := by rw [e0]; simp
    rw [ene]
    refine iteF ?_
    have hat : atI (ps.map rf) (-1) = some (rf c) := by
      unfold atI
      have ei : ixN (ps.map rf).length (-1) = some L.length := by
        unfold ixN
        rw [e0, List.length_map, List.length_append, if_neg (by omega), if_pos (by simp; omega)]
        congr 1
        simp
        omega
      rw [ei]
      show (ps.map rf)[L.length]? = _
      rw [e0, List.getElem?_map]
      simp
    have hc := hps c (by rw [e0]; simp)
    refine ⟨_, rfl, _, rfl, a, _, _, _, rfl, rfl, g1 _ _ ha, hat, Nat.zero_le _, fun e2 he2 => ?_⟩
    have g2 := g1.trans (Same.new (o := .tup []) he2)
    refine ⟨c.1, e2, _, rfl, rfl, .inr ⟨g2 _ _ hc, upd_same⟩, dd_ints c.2, _, rfl, ?_⟩
    cases hce : c.2 with
    | cons y r =>
      refine iteT ?_
      refine k _ false g2 ⟨fun h => (by cases h), fun h => ?_⟩
      obtain ⟨qs, d, e, hd⟩ := key.mp h.1
      rw [e0] at e
      have h2 := List.append_inj_right' e rfl
      have h3 : c = d := by simpa using h2
      rw [← h3, hce] at hd
      cases hd
    | nil =>
      refine iteF ?_
      have g2a := g2 _ _ ha
      refine ⟨_, rfl, a, rfl, ⟨_, SqT.of g2a⟩, ?_⟩
      refine lcV0 ps _ (wkT ps rf) yName (fun y => .bl (isCl many y.2)) (by omega) (by intro _; rfl) (fun H h => SqT.of (h _ _ g2a)) ?_ ?_
      · intro y hy H3 s3 Qe q
        have g3 := g2.trans s3
        exact ⟨_, rfl, _, _, _, _, rfl, rfl, g3 _ _ hx, rfl, _, rfl, many, y.1, y.2, rfl, g3 _ _ (hps y hy), hsh y hy, fun H4 s4 => q H4 s4⟩
      · intro D H3 _ s3 h3
        have g3 := g2.trans s3
        refine ⟨_, _, _, _, rfl, h3, _, rfl, ?_⟩
        cases eall : ps.all fun y => isCl many y.2 with
        | false =>
          refine iteF ?_
          refine k H3 false g3 ⟨fun h => (by cases h), fun h => ?_⟩
          have : (ps.all fun y => isCl many y.2) = true := List.all_eq_true.mpr fun y hy => h.2.1 _ (List.mem_map.mpr ⟨y, hy, rfl⟩)
          rw [eall] at this
          cases this
        | true =>
          have hall := List.all_eq_true.mp eall
          refine iteT ⟨_, rfl, _, rfl, .ref x, many, as, ps, a, rfl, B.mono g3, g3 _ _ ha, hps.mono g3, hall, hl, fun H4 r s4 hr => ?_⟩
          refine k H4 r (g3.trans s4) ⟨fun h => ⟨key.mpr ⟨L, c, e0, hce⟩, fun z hz => ?_, hr.mp h⟩, fun h => hr.mpr h.2.2⟩
          obtain ⟨y, hy, rfl⟩ := List.mem_map.mp hz
          exact hall y hy
theorem sc_is_paper : FnScope ["bundle", "value"] ["bundle", "value"] (defScope s_is_paper) := ⟨rfl, rfl, rfl, by decide +kernel, rfl, by decide +kernel, by decide +kernel⟩
theorem ok_is_paper (T : Tx K mg) (C_check_bundle : CalF P w K mg base ("check_bundle", none) 4 ["bundle"] (sp_check_bundle K)) (C_is_paper_of : CalF P w K mg base ("is_paper_of", none) 5 ["bundle", "value"] (sp_is_paper_of K)) : CalF P w K mg base ("is_paper", none) 6 ["bundle", "value"] (sp_is_paper K) := by
  obtain ⟨fd_check_bundle, b_check_bundle, G_check_bundle, kp_check_bundle⟩ := C_check_bundle
  obtain ⟨fd_is_paper_of, b_is_paper_of, G_is_paper_of, kp_is_paper_of⟩ := C_is_paper_of
  have mg_check_bundle : mg "check_bundle" = some (.ref (He.ga K "check_bundle")) := T.glo 5
  have mg_is_paper_of : mg "is_paper_of" = some (.ref (He.ga K "is_paper_of")) := T.glo 15
  refine calF T (d := d_is_paper) 32 rfl sc_is_paper rfl rfl (fun _ _ _ _ _ _ us hl => match us, hl with | [_, _], _ => rfl) (len_is_paper K) ?_
  intro cdv A outer s H vs Q E hr h
  have hu := hu_of hr
  obtain ⟨v, many, as, ps, a, rfl, B, ha, hps, hl, hsh, k⟩ := h
  refine ⟨_, (pss_cons (ps_expr (pe_call G_check_bundle (hr.mono (by decide)) (by rfl) mg_check_bundle kp_check_bundle b_check_bundle .nil pass0 (pa_cons (pv 0) pa_nil)))
      (pss_one (ps_ret (pe_call G_is_paper_of (hr.mono (by decide)) (by rfl) mg_is_paper_of kp_is_paper_of b_is_paper_of .nil pass0 (pa_cons (pv 0) (pa_cons (pv 1) pa_nil)))))), ?_⟩
  refine ⟨_, rfl, v, many, as, rfl, B.bd, B.ok, fun H1 s1 => ?_⟩
  exact ⟨_, rfl, _, rfl, v, many, as, ps, a, rfl, B.mono s1, s1 _ _ ha, hps.mono s1, hl, hsh, fun H2 r s2 hr => k H2 r (s1.trans s2) hr⟩
theorem sc_is_solved : FnScope ["bundle", "value"] ["bundle", "value"] (defScope s_is_solved) := ⟨rfl, rfl, rfl, by decide +kernel, rfl, by decide +kernel, by decide +kernel⟩
theorem ok_is_solved (T : Tx K mg) (C_is_paper_of : CalF P w K mg base ("is_paper_of", none) 5 ["bundle", "value"] (sp_is_paper_of K)) (C_are_values_of : CalF P w K mg base ("are_values_of", none) 2 ["bundle", "value"] (sp_are_values_of K)) (C_do_hold : CalF P w K mg base ("do_hold", none) 1 ["bundle", "values"] (sp_do_hold K)) : CalF P w K mg base ("is_solved", none) 6 ["bundle", "value"] (sp_is_solved K) := by
  have mg_isinstance : mg "isinstance" = none := T.free 61
  have mg_tuple : mg "tuple" = none := T.free 73
  have mg_len : mg "len" = none := T.free 62
  have mg_str : mg "str" = none := T.free 70
  obtain ⟨t_VALUES, mg_VALUES⟩ := T.str 77 (x := "VALUES") (z := "values")
  obtain ⟨t_PAPER, mg_PAPER⟩ := T.str 78 (x := "PAPER") (z := "paper")
  obtain ⟨fd_is_paper_of, b_is_paper_of, G_is_paper_of, kp_is_paper_of⟩ := C_is_paper_of
  obtain ⟨fd_are_values_of, b_are_values_of, G_are_values_of, kp_are_values_of⟩ := C_are_values_of
  obtain ⟨fd_do_hold, b_do_hold, G_do_hold, kp_do_hold⟩ := C_do_hold
  have mg_is_paper_of : mg "is_paper_of" = some (.ref (He.ga K "is_paper_of")) := T.glo 15
  have mg_are_values_of : mg "are_values_of" = some (.ref (He.ga K "are_values_of")) := T.glo 6
  have mg_do_hold : mg "do_hold" = some (.ref (He.ga K "do_hold")) := T.glo 7
  refine calF T (d := d_is_solved) 34 rfl sc_is_solved rfl rfl (fun _ _ _ _ _ _ us hl => match us, hl with | [_, _], _ => rfl) (len_is_solved K) ?_
  intro cdv A outer s H vs Q E hr h
  have hu := hu_of hr
  obtain ⟨v, many, as, t, b, rfl, B, hcase⟩ := h
  refine ⟨_, (pss_cons (ps_if (PW.pt (pw_or (pt_not (pt_val (pe_callB call_isi2 (by rfl) mg_isinstance bt_isinstance (pa_cons (pv 1) (pa_cons (pe_bltn (v := .ty "tuple") (by rfl) mg_tuple bt_tuple rfl) pa_nil))))) (pw_or (pt_cmpR op_ne (pe_callB call_len2 (by rfl) mg_len bt_len (pa_cons (pv 1) pa_nil)) pe_int (nomark _)) (pw_or1 (pt_not (pt_val (pe_callB call_isi2 (by rfl) mg_isinstance bt_isinstance (pa_cons (pe_ix ix_tup2 (pv 1) pe_int (fun _ _ => rfl)) (pa_cons (pe_bltn (v := .ty "str") (by rfl) mg_str bt_str rfl) pa_nil))))))))) (pss_one (ps_ret pe_bl)) pss_nil)
      (pss_cons (ps_if (pt_cmpR op_eq (pe_ix ix_tup2 (pv 1) pe_int (fun _ _ => rfl)) (pe_glob (v := .str "values") (by rfl) mg_VALUES ⟨_, rfl⟩) (nomark _)) (pss_one (ps_ret (pe_and (pe_call G_are_values_of (hr.mono (by decide)) (by rfl) mg_are_values_of kp_are_values_of b_are_values_of .nil pass0 (pa_cons (pv 0) (pa_cons (pe_ix ix_tup2 (pv 1) pe_int (fun _ _ => rfl)) pa_nil))) (pe_one (pe_call G_do_hold (hr.mono (by decide)) (by rfl) mg_do_hold kp_do_hold b_do_hold .nil pass0 (pa_cons (pv 0) (pa_cons (pe_ix ix_tup2 (pv 1) pe_int (fun _ _ => rfl)) pa_nil))))))) pss_nil)
      (pss_one (ps_ret (pe_and (pe_cmpR op_eq (pe_ix ix_tup2 (pv 1) pe_int (fun _ _ => rfl)) (pe_glob (v := .str "paper") (by rfl) mg_PAPER ⟨_, rfl⟩) (nomark _)) (pe_one (pe_call G_is_paper_of (hr.mono (by decide)) (by rfl) mg_is_paper_of kp_is_paper_of b_is_paper_of .nil pass0 (pa_cons (pv 0) (pa_cons (pe_ix ix_tup2 (pv 1) pe_int (fun _ _ => rfl)) pa_nil))))))))), ?_⟩
  rcases hcase with ⟨ns, ht, hb, hl, k⟩ | ⟨ps, ht, hb, hps, hl, hsh, k⟩
  · refine ⟨_, rfl, _, _, rfl, .inr (.inl ⟨t, _, rfl, rfl, .inl ⟨ht, _, rfl, iteF ?_⟩⟩)⟩
    refine ⟨_, rfl, t, _, rfl, .inr ht, rfl, _, rfl, iteF ?_⟩
    refine ⟨_, rfl, _, _, _, _, rfl, rfl, ht, rfl, _, _, rfl, .inr (.inr ⟨_, rfl, rfl, _, rfl, iteF ?_⟩)⟩
    refine ⟨_, rfl, _, _, _, _, rfl, rfl, ht, rfl, rfl, _, rfl, iteT ?_⟩
    refine ⟨_, rfl, _, rfl, _, _, _, _, rfl, rfl, ht, rfl, v, many, as, b, ns, rfl, B.bd, hb, hl, fun H1 s1 => ⟨_, rfl, ?_⟩⟩
    cases e : isVal many ns with
    | false =>
      refine iteF ?_
      have := k H1 s1
      rw [e, Bool.false_and] at this
      exact this
    | true =>
      refine iteT ⟨_, rfl, _, rfl, _, _, _, _, rfl, rfl, s1 _ _ ht, rfl, v, many, as, b, ns, rfl, (B.mono s1).bd, B.ok, s1 _ _ hb, hl, fun H2 s2 => ?_⟩
      have := k H2 (s1.trans s2)
      rw [e, Bool.true_and] at this
      exact this
  · refine ⟨_, rfl, _, _, rfl, .inr (.inl ⟨t, _, rfl, rfl, .inl ⟨ht, _, rfl, iteF ?_⟩⟩)⟩
    refine ⟨_, rfl, t, _, rfl, .inr ht, rfl, _, rfl, iteF ?_⟩
    refine ⟨_, rfl, _, _, _, _, rfl, rfl, ht, rfl, _, _, rfl, .inr (.inr ⟨_, rfl, rfl, _, rfl, iteF ?_⟩)⟩
    refine ⟨_, rfl, _, _, _, _, rfl, rfl, ht, rfl, rfl, _, rfl, iteF ?_⟩
    refine ⟨_, rfl, _, _, _, _, rfl, rfl, ht, rfl, rfl, _, rfl, iteT ?_⟩
    exact ⟨_, rfl, _, rfl, _, _, _, _, rfl, rfl, ht, rfl, v, many, as, ps, b, rfl, B, hb, hps, hl, hsh, k⟩
theorem sc_shows_solved : FnScope ["bundle", "value"] ["bundle", "value"] (defScope s_shows_solved) := ⟨rfl, rfl, rfl, by decide +kernel, rfl, by decide +kernel, by decide +kernel⟩
theorem ok_shows_solved (T : Tx K mg) (C_check_bundle : CalF P w K mg base ("check_bundle", none) 4 ["bundle"] (sp_check_bundle K)) (C_is_solved : CalF P w K mg base ("is_solved", none) 6 ["bundle", "value"] (sp_is_solved K)) : CalF P w K mg base ("shows_solved", none) 7 ["bundle", "value"] (sp_shows_solved K) := by
  obtain ⟨fd_check_bundle, b_check_bundle, G_check_bundle, kp_check_bundle⟩ := C_check_bundle
  obtain ⟨fd_is_solved, b_is_solved, G_is_solved, kp_is_solved⟩ := C_is_solved
  have mg_check_bundle : mg "check_bundle" = some (.ref (He.ga K "check_bundle")) := T.glo 5
  have mg_is_solved : mg "is_solved" = some (.ref (He.ga K "is_solved")) := T.glo 18
  refine calF T (d := d_shows_solved) 35 rfl sc_shows_solved rfl rfl (fun _ _ _ _ _ _ us hl => match us, hl with | [_, _], _ => rfl) (len_shows_solved K) ?_
  intro cdv A outer s H vs Q E hr h
  have hu := hu_of hr
  obtain ⟨v, many, as, t, b, rfl, B, hcase⟩ := h
  refine ⟨_, (pss_cons (ps_expr (pe_call G_check_bundle (hr.mono (by decide)) (by rfl) mg_check_bundle kp_check_bundle b_check_bundle .nil pass0 (pa_cons (pv 0) pa_nil)))
      (pss_one (ps_ret (pe_call G_is_solved (hr.mono (by decide)) (by rfl) mg_is_solved kp_is_solved b_is_solved .nil pass0 (pa_cons (pv 0) (pa_cons (pv 1) pa_nil)))))), ?_⟩
  refine ⟨_, rfl, v, many, as, rfl, B.bd, B.ok, fun H1 s1 => ?_⟩
  refine ⟨_, rfl, _, rfl, v, many, as, t, b, rfl, B.mono s1, ?_⟩
  rcases hcase with ⟨ns, ht, hb, hl, k⟩ | ⟨ps, ht, hb, hps, hl, hsh, k⟩
  · exact .inl ⟨ns, s1 _ _ ht, s1 _ _ hb, hl, fun H2 s2 => k H2 (s1.trans s2)⟩
  · exact .inr ⟨ps, s1 _ _ ht, s1 _ _ hb, hps.mono s1, hl, hsh, fun H2 r s2 hr => k H2 r (s1.trans s2) hr⟩
end
end Nt
set_option maxRecDepth 100000
set_option maxHeartbeats 1000000
/-! NtC: how many hold: counts over all ways to tell some numbers. -/
namespace Nt
open PySem PySem.Spec PyProof.Rows L2
abbrev As := Int → Bool
def lit (a : As) (l : Int) : Bool := if 0 < l then a l else !a (-l)
def hold (cs : List (List Int)) (a : As) : Bool := cs.all fun c => c.any (lit a)
def putA (a : As) (n : Int) (b : Bool) : As := fun x => if x = n then b else a x
/-- in how many ways to tell the numbers does P hold, all others as in a -/
def sm : List Int → As → (As → Bool) → Nat
  | [], a, P => if P a = true then 1 else 0
  | n :: ns, a, P => sm ns (putA a n true) P + sm ns (putA a n false) P
def nums (n : Nat) : List Int := (List.range n).map fun (i : Nat) => (i : Int) + 1
def a0 : As := fun _ => false
def cnt (many : Int) (cs : List (List Int)) : Nat := sm (nums many.toNat) a0 (hold cs)
theorem mem_nums {n : Nat} {x : Int} : x ∈ nums n ↔ 1 ≤ x ∧ x ≤ n := by
  unfold nums
  rw [List.mem_map]
  constructor
  · rintro ⟨i, hi, rfl⟩
    have := List.mem_range.mp hi
    omega
  · rintro ⟨h1, h2⟩
    exact ⟨(x - 1).toNat, List.mem_range.mpr (by omega), by omega⟩
theorem nums_nodup (n : Nat) : (nums n).Nodup := List.Pairwise.map _ (fun a b (h : a ≠ b) => by omega) List.nodup_range
theorem nums_len (n : Nat) : (nums n).length = n := by unfold nums; rw [List.length_map, List.length_range]
theorem lit_neg {a : As} {l : Int} (h : l ≠ 0) : lit a (-l) = !lit a l := by
  unfold lit
  by_cases h1 : 0 < l
  · rw [if_neg (by omega), if_pos h1, Int.neg_neg]
  · rw [if_pos (by omega), if_neg h1, Bool.not_not]
theorem lit_ab {a b : As} {l : Int} (h : a (ab l) = b (ab l)) : lit a l = lit b l := by
  unfold lit
  unfold ab at h
  by_cases h1 : 0 < l
  · rw [if_neg (by omega)] at h
    rw [if_pos h1, if_pos h1, h]
  · rw [if_neg h1, if_neg h1]
    by_cases h2 : l < 0
    · rw [if_pos h2] at h
      rw [h]
    · have : l = 0 := by omega
      rw [if_neg h2] at h
      subst this
      rw [Int.neg_zero, h]
/-! ### sums -/
theorem sm_congr {P Q : As → Bool} (h : ∀ a, P a = Q a) : ∀ (ns : List Int) (a : As), sm ns a P = sm ns a Q
  | [], a => by show (if P a = true then 1 else 0) = _; rw [h]; rfl
  | n :: ns, a => by show sm ns _ P + sm ns _ P = sm ns _ Q + sm ns _ Q; rw [sm_congr h ns, sm_congr h ns]
theorem sm_add {P Q R : As → Bool} (h : ∀ a, (P a = true ↔ Q a = true ∨ R a = true) ∧ ¬ (Q a = true ∧ R a = true)) : ∀ (ns : List Int) (a : As), sm ns a P = sm ns a Q + sm ns a R
  | [], a => by
    obtain ⟨h1, h2⟩ := h a
    show (if P a = true then 1 else 0) = (if Q a = true then 1 else 0) + (if R a = true then 1 else 0)
    by_cases hq : Q a = true
    · have hr : ¬ R a = true := fun z => h2 ⟨hq, z⟩
      rw [if_pos (h1.mpr (.inl hq)), if_pos hq, if_neg hr]
    · by_cases hr : R a = true
      · rw [if_pos (h1.mpr (.inr hr)), if_neg hq, if_pos hr]
      · rw [if_neg fun z => (h1.mp z).elim hq hr, if_neg hq, if_neg hr]
  | n :: ns, a => by
    show sm ns _ P + sm ns _ P = (sm ns _ Q + sm ns _ Q) + (sm ns _ R + sm ns _ R)
    rw [sm_add h ns, sm_add h ns]
    omega
theorem sm_zero {P : As → Bool} (h : ∀ a, P a = false) : ∀ (ns : List Int) (a : As), sm ns a P = 0
  | [], a => by show (if P a = true then 1 else 0) = 0; rw [h]; rfl
  | n :: ns, a => by show sm ns _ P + sm ns _ P = 0; rw [sm_zero h ns, sm_zero h ns]
theorem sm_one {P : As → Bool} (h : ∀ a, P a = true) : ∀ (ns : List Int) (a : As), sm ns a P = 2 ^ ns.length
  | [], a => by show (if P a = true then 1 else 0) = 1; rw [h]; rfl
  | n :: ns, a => by show sm ns _ P + sm ns _ P = 2 ^ (ns.length + 1); rw [sm_one h ns, sm_one h ns, Nat.pow_succ]; omega
theorem sm_le {P Q : As → Bool} (h : ∀ a, P a = true → Q a = true) : ∀ (ns : List Int) (a : As), sm ns a P ≤ sm ns a Q
  | [], a => by
    show (if P a = true then 1 else 0) ≤ (if Q a = true then 1 else 0)
    by_cases hp : P a = true
    · rw [if_pos hp, if_pos (h a hp)]; exact Nat.le_refl _
    · rw [if_neg hp]; exact Nat.zero_le _
  | n :: ns, a => Nat.add_le_add (sm_le h ns _) (sm_le h ns _)
/-- none holds exactly where no way of telling holds -/
theorem sm_pos {P : As → Bool} : ∀ {ns : List Int} {a : As}, sm ns a P ≠ 0 → ∃ b, P b = true ∧ ∀ x, x ∉ ns → b x = a x
  | [], a, h => by
    by_cases hp : P a = true
    · exact ⟨a, hp, fun _ _ => rfl⟩
    · exact absurd (if_neg hp) h
  | n :: ns, a, h => by
    have h : sm ns (putA a n true) P + sm ns (putA a n false) P ≠ 0 := h
    by_cases h1 : sm ns (putA a n true) P = 0
    · obtain ⟨b, hb, hx⟩ := sm_pos (P := P) (ns := ns) (a := putA a n false) (by omega)
      refine ⟨b, hb, fun x hx2 => ?_⟩
      rw [List.mem_cons, not_or] at hx2
      rw [hx x hx2.2]
      exact if_neg hx2.1
    · obtain ⟨b, hb, hx⟩ := sm_pos h1
      refine ⟨b, hb, fun x hx2 => ?_⟩
      rw [List.mem_cons, not_or] at hx2
      rw [hx x hx2.2]
      exact if_neg hx2.1
theorem putA_comm (a : As) {x y : Int} (h : x ≠ y) (b c : Bool) : putA (putA a x b) y c = putA (putA a y c) x b := by
  funext z
  unfold putA
  by_cases h1 : z = y
  · rw [if_pos h1, if_neg (fun q => h (q.symm.trans h1)), if_pos h1]
  · rw [if_neg h1]
    by_cases h2 : z = x
    · rw [if_pos h2, if_pos h2]
    · rw [if_neg h2, if_neg h2, if_neg h1]
theorem sm_perm {P : As → Bool} {ns ms : List Int} (h : ns.Perm ms) : ∀ a, sm ns a P = sm ms a P := by
  induction h with
  | nil => intro a; rfl
  | cons x _ ih => intro a; show sm _ _ P + sm _ _ P = sm _ _ P + sm _ _ P; rw [ih, ih]
  | swap x y l =>
    intro a
    show (sm l (putA (putA a y true) x true) P + sm l (putA (putA a y true) x false) P) + (sm l (putA (putA a y false) x true) P + sm l (putA (putA a y false) x false) P) =
      (sm l (putA (putA a x true) y true) P + sm l (putA (putA a x true) y false) P) + (sm l (putA (putA a x false) y true) P + sm l (putA (putA a x false) y false) P)
    by_cases e : x = y
    · subst e; rfl
    · rw [putA_comm a e true true, putA_comm a e true false, putA_comm a e false true, putA_comm a e false false]
      omega
  | trans _ _ ih1 ih2 => intro a; rw [ih1, ih2]
/-- what P does not look at does not matter -/
theorem sm_base {P : As → Bool} {X : Int → Prop} (hP : ∀ a b, (∀ x, ¬ X x → a x = b x) → P a = P b) : ∀ (ns : List Int) {a b : As}, (∀ x, ¬ X x → a x = b x) → sm ns a P = sm ns b P
  | [], a, b, h => by show (if P a = true then 1 else 0) = _; rw [hP a b h]; rfl
  | n :: ns, a, b, h => by
    have k : ∀ c x, ¬ X x → putA a n c x = putA b n c x := fun c x hx => by
      unfold putA
      by_cases e : x = n
      · rw [if_pos e, if_pos e]
      · rw [if_neg e, if_neg e]; exact h x hx
    show sm ns _ P + sm ns _ P = sm ns _ P + sm ns _ P
    rw [sm_base hP ns (k true), sm_base hP ns (k false)]
/-- P looks at none of the numbers -/
theorem sm_const {P Q : As → Bool} : ∀ {ys : List Int} {a : As}, (∀ b, (∀ x, x ∉ ys → b x = a x) → P b = P a) → sm ys a (fun a => P a && Q a) = if P a = true then sm ys a Q else 0
  | [], a, h => by
    show (if (P a && Q a) = true then 1 else 0) = _
    by_cases hp : P a = true
    · rw [if_pos hp, hp, Bool.true_and]; rfl
    · have hp : P a = false := by simpa using hp
      rw [hp]; rfl
  | n :: ys, a, h => by
    show sm ys _ _ + sm ys _ _ = _
    have e : ∀ c, P (putA a n c) = P a := fun c => h _ fun x hx => by
      unfold putA
      rw [if_neg fun z => hx (by rw [z]; exact List.mem_cons_self)]
    have k : ∀ c b, (∀ x, x ∉ ys → b x = putA a n c x) → P b = P (putA a n c) := fun c b hb => by
      rw [e c]
      refine h b fun x hx => ?_
      rw [List.mem_cons, not_or] at hx
      rw [hb x hx.2]
      exact if_neg hx.1
    rw [sm_const (k true), sm_const (k false), e, e]
    by_cases hp : P a = true
    · rw [if_pos hp, if_pos hp, if_pos hp]; rfl
    · rw [if_neg hp, if_neg hp, if_neg hp]
/-- numbers parted -/
theorem sm_mul {P Q : As → Bool} {ys : List Int} (hP : ∀ a b, (∀ x, x ∉ ys → a x = b x) → P a = P b) : ∀ {xs : List Int} {a : As}, (∀ a b, (∀ x, x ∉ xs → a x = b x) → Q a = Q b) → sm (xs ++ ys) a (fun a => P a && Q a) = sm xs a P * sm ys a Q
  | [], a, _ => by
    rw [List.nil_append, sm_const fun b hb => hP b a hb]
    show _ = (if P a = true then 1 else 0) * _
    by_cases hp : P a = true
    · rw [if_pos hp, if_pos hp, Nat.one_mul]
    · rw [if_neg hp, if_neg hp, Nat.zero_mul]
  | x :: xs, a, hQ => by
    show sm (xs ++ ys) (putA a x true) _ + sm (xs ++ ys) (putA a x false) _ = (sm xs (putA a x true) P + sm xs (putA a x false) P) * _
    have hQ' : ∀ a b, (∀ z, z ∉ xs → a z = b z) → Q a = Q b := fun a b h => hQ a b fun z hz => h z fun q => hz (List.mem_cons_of_mem _ q)
    have e : ∀ c, sm ys (putA a x c) Q = sm ys a Q := fun c => sm_base (X := fun z => z = x) (fun a b h => hQ a b fun z hz => h z fun q => hz (by rw [q]; exact List.mem_cons_self)) ys fun z hz => if_neg hz
    rw [sm_mul hP hQ', sm_mul hP hQ', e, e, Nat.add_mul]
/-- numbers called otherwise -/
theorem sm_map {P : As → Bool} {X : Int → Prop} {f : Int → Int} (hf : ∀ x y, X x → X y → f x = f y → x = y) (hP : ∀ a b, (∀ x, X x → a x = b x) → P a = P b) : ∀ (ns : List Int), (∀ x ∈ ns, X x) → ∀ {a b : As}, (∀ x, X x → b (f x) = a x) → sm (ns.map f) b (fun b => P fun x => b (f x)) = sm ns a P
  | [], _, a, b, h => by
    show (if P (fun x => b (f x)) = true then 1 else 0) = _
    rw [hP (fun x => b (f x)) a h]; rfl
  | n :: ns, hn, a, b, h => by
    have hX := hn n List.mem_cons_self
    have k : ∀ c x, X x → putA b (f n) c (f x) = putA a n c x := fun c x hx => by
      unfold putA
      by_cases e : x = n
      · rw [if_pos (by rw [e]), if_pos e]
      · rw [if_neg fun z => e (hf x n hx hX z), if_neg e]; exact h x hx
    show sm (ns.map f) _ _ + sm (ns.map f) _ _ = sm ns _ P + sm ns _ P
    rw [sm_map hf hP ns (fun x hx => hn x (List.mem_cons_of_mem _ hx)) (k true), sm_map hf hP ns (fun x hx => hn x (List.mem_cons_of_mem _ hx)) (k false)]
/-! ### truth -/
theorem lit_dep {a b : As} {c : List Int} (h : ∀ l ∈ c, a (ab l) = b (ab l)) : c.any (lit a) = c.any (lit b) := by
  induction c with
  | nil => rfl
  | cons l r ih => rw [List.any_cons, List.any_cons, lit_ab (h l List.mem_cons_self), ih fun x hx => h x (List.mem_cons_of_mem _ hx)]
theorem hold_dep {a b : As} {cs : List (List Int)} (h : ∀ c ∈ cs, ∀ l ∈ c, a (ab l) = b (ab l)) : hold cs a = hold cs b := by
  unfold hold
  induction cs with
  | nil => rfl
  | cons c r ih => rw [List.all_cons, List.all_cons, lit_dep (h c List.mem_cons_self), ih fun x hx => h x (List.mem_cons_of_mem _ hx)]
theorem hold_iff {cs : List (List Int)} {a : As} : hold cs a = true ↔ ∀ c ∈ cs, ∃ l ∈ c, lit a l = true := by
  unfold hold
  rw [List.all_eq_true]
  exact ⟨fun h c hc => by obtain ⟨l, h1, h2⟩ := List.any_eq_true.mp (h c hc); exact ⟨l, h1, h2⟩, fun h c hc => by obtain ⟨l, h1, h2⟩ := h c hc; exact List.any_eq_true.mpr ⟨l, h1, h2⟩⟩
theorem hold_app (cs ds : List (List Int)) (a : As) : hold (cs ++ ds) a = (hold cs a && hold ds a) := by unfold hold; rw [List.all_append]
/-- what is sure by units holds where all hold -/
theorem Der.sound {cs : Cls'} {gs : List Int} {a : As} (nz : ∀ c ∈ cs, ∀ l ∈ c, l ≠ 0) (h : hold cs a = true) (hg : ∀ g ∈ gs, lit a g = true) {l : Int} (d : Der cs gs l) : lit a l = true := by
  induction d with
  | given h => exact hg _ h
  | unit hc m o ih =>
    obtain ⟨y, hy, hl⟩ := hold_iff.mp h _ hc
    rename_i c l
    by_cases e : y = l
    · rw [← e]; exact hl
    · have := ih y hy e
      rw [lit_neg (nz c hc y hy), hl] at this
      cases this
theorem Clashes.sound {cs : Cls'} {gs : List Int} {a : As} (nz : ∀ c ∈ cs, ∀ l ∈ c, l ≠ 0) (ng : ∀ g ∈ gs, g ≠ 0) (k : Clashes cs gs) (h : hold cs a = true) : ¬ ∀ g ∈ gs, lit a g = true := by
  intro hg
  rcases k with ⟨c, hc, hd⟩ | ⟨g, hm, hd⟩
  · obtain ⟨y, hy, hl⟩ := hold_iff.mp h c hc
    have := (hd y hy).sound nz h hg
    rw [lit_neg (nz c hc y hy), hl] at this
    cases this
  · have := hd.sound nz h hg
    rw [lit_neg (ng g hm), hg g hm] at this
    cases this
theorem Rup.sound {cs : Cls'} {c : List Int} {a : As} (nz : ∀ c ∈ cs, ∀ l ∈ c, l ≠ 0) (nc : ∀ l ∈ c, l ≠ 0) (k : Rup cs c) (h : hold cs a = true) : ∃ l ∈ c, lit a l = true := by
  by_cases e : ∃ l ∈ c, lit a l = true
  · exact e
  · refine absurd (fun g hg => ?_) (Clashes.sound (a := a) nz (fun g hg => ?_) k h)
    · obtain ⟨l, hl, rfl⟩ := List.mem_map.mp hg
      rw [lit_neg (nc l hl)]
      cases q : lit a l with
      | false => rfl
      | true => exact absurd ⟨l, hl, q⟩ e
    · obtain ⟨l, hl, rfl⟩ := List.mem_map.mp hg
      have := nc l hl
      omega
theorem Steps.sound : ∀ {ps cs : List (List Int)} {a : As}, (∀ c ∈ cs, ∀ l ∈ c, l ≠ 0) → (∀ c ∈ ps, ∀ l ∈ c, l ≠ 0) → Steps cs ps → hold cs a = true → hold ps a = true
  | [], _, _, _, _, _, _ => rfl
  | c :: r, cs, a, nz, np, st, h => by
    have h1 := st.1.sound nz (np c List.mem_cons_self) h
    have h2 : hold (cs ++ [c]) a = true := by
      rw [hold_app, h, Bool.true_and]
      exact hold_iff.mpr fun x hx => by rw [List.mem_singleton.mp hx]; exact h1
    have h3 := Steps.sound (cs := cs ++ [c]) (fun x hx => by
      rcases List.mem_append.mp hx with hx | hx
      · exact nz x hx
      · rw [List.mem_singleton.mp hx]; exact np c List.mem_cons_self) (fun x hx => np x (List.mem_cons_of_mem _ hx)) st.2 h2
    refine hold_iff.mpr fun x hx => ?_
    rcases List.mem_cons.mp hx with rfl | hx
    · exact h1
    · exact hold_iff.mp h3 x hx
/-- a paper: none holds -/
theorem paper_none {cs qs : List (List Int)} (nz : ∀ c ∈ cs, ∀ l ∈ c, l ≠ 0) (np : ∀ c ∈ qs ++ [[]], ∀ l ∈ c, l ≠ 0) (st : Steps cs (qs ++ [[]])) (a : As) : hold cs a = false := by
  cases h : hold cs a with
  | false => rfl
  | true =>
    obtain ⟨l, hl, _⟩ := hold_iff.mp (st.sound nz np h) [] (by simp)
    cases hl
/-- values as a way to tell -/
def asOf (ys : List Int) : As := fun n => decide (n ∈ ys)
theorem isVal_iff {many : Int} {ys : List Int} (h : isVal many ys = true) : ys.map ab = nums many.toNat := by
  unfold isVal at h
  rw [Bool.and_eq_true] at h
  have h1 := of_decide_eq_true h.1
  have h2 := List.all_eq_true.mp h.2
  refine List.ext_getElem? fun i => ?_
  unfold nums
  rw [List.getElem?_map, List.getElem?_map]
  rcases Nat.lt_or_ge i ys.length with k | k
  · have hi : ys[i]? = some ys[i] := List.getElem?_eq_getElem k
    rw [hi, List.getElem?_range (by omega)]
    have := of_decide_eq_true (h2 (ys[i], i) (List.mem_zipIdx_iff_getElem?.mpr hi))
    exact congrArg some this
  · rw [List.getElem?_eq_none k, List.getElem?_eq_none (by rw [List.length_range]; omega)]
    rfl
theorem isVal_nz {many : Int} {ys : List Int} (h : isVal many ys = true) {l : Int} (hl : l ∈ ys) : InR many l := by
  have : ab l ∈ nums many.toNat := isVal_iff h ▸ List.mem_map.mpr ⟨l, hl, rfl⟩
  have := mem_nums.mp this
  unfold ab at this
  unfold InR
  split at this <;> omega
theorem isVal_one {many : Int} {ys : List Int} (h : isVal many ys = true) {x y : Int} (hx : x ∈ ys) (hy : y ∈ ys) (e : ab x = ab y) : x = y := by
  have hn : (ys.map ab).Nodup := by rw [isVal_iff h]; exact nums_nodup _
  obtain ⟨i, hi⟩ := List.getElem?_of_mem hx
  obtain ⟨j, hj⟩ := List.getElem?_of_mem hy
  have h1 : (ys.map ab)[i]? = some (ab x) := by rw [List.getElem?_map, hi]; rfl
  have h2 : (ys.map ab)[j]? = some (ab x) := by rw [List.getElem?_map, hj, e]; rfl
  have h3 := nd_ix hn h1 h2
  subst h3
  rw [hi] at hj
  exact Option.some.inj hj
theorem lit_asOf {many : Int} {ys : List Int} (h : isVal many ys = true) {l : Int} (hl : InR many l) : lit (asOf ys) l = decide (l ∈ ys) := by
  unfold lit asOf
  by_cases h1 : 0 < l
  · rw [if_pos h1]
  · rw [if_neg h1]
    have hm : ab l ∈ ys.map ab := by
      rw [isVal_iff h]
      have := ab_in hl
      exact mem_nums.mpr ⟨this.1, by omega⟩
    obtain ⟨z, hz, e⟩ := List.mem_map.mp hm
    have nz := hl.1
    have e2 : ab (-l) = ab l := ab_neg l
    by_cases h2 : -l ∈ ys
    · have h3 : l ∉ ys := fun h3 => by
        have := isVal_one h h2 h3 e2
        omega
      rw [decide_eq_true h2, decide_eq_false h3]; rfl
    · have h3 : l ∈ ys := by
        rcases ab_eq e with q | q
        · rw [← q]; exact hz
        · rw [q] at hz; exact absurd hz h2
      rw [decide_eq_false h2, decide_eq_true h3]; rfl
theorem hold_asOf {many : Int} {ys : List Int} {cs : List (List Int)} (h : isVal many ys = true) (hc : ∀ c ∈ cs, isCl many c = true) (k : ∀ c ∈ cs, ∃ l ∈ c, l ∈ ys) : hold cs (asOf ys) = true := hold_iff.mpr fun c hc' => by
  obtain ⟨l, h1, h2⟩ := k c hc'
  exact ⟨l, h1, by rw [lit_asOf h ((isCl_iff.mp (hc c hc')).1 l h1)]; exact decide_eq_true h2⟩
/-- none, counted -/
theorem cnt_zero {many : Int} {cs : List (List Int)} (hc : ∀ c ∈ cs, isCl many c = true) : cnt many cs = 0 ↔ ∀ a, hold cs a = false := by
  constructor
  · intro h a
    cases q : hold cs a with
    | false => rfl
    | true =>
      exfalso
      -- all numbers of a are told in some way
      have key : ∀ (ns : List Int) (b : As), (∀ x, x ∉ ns → (1 ≤ x ∧ x ≤ many) → b x = a x) → sm ns b (hold cs) ≠ 0 := by
        intro ns
        induction ns with
        | nil =>
          intro b hb
          have e : hold cs b = hold cs a := hold_dep fun c hc' l hl => hb _ (by simp) (ab_in ((isCl_iff.mp (hc c hc')).1 l hl))
          show (if hold cs b = true then 1 else 0) ≠ 0
          rw [e, if_pos q]; decide
        | cons n ns ih =>
          intro b hb
          have := ih (putA b n (a n)) fun x hx hr => by
            unfold putA
            by_cases e : x = n
            · rw [if_pos e, e]
            · rw [if_neg e]; exact hb x (fun z => (List.mem_cons.mp z).elim e hx) hr
          show sm ns (putA b n true) _ + sm ns (putA b n false) _ ≠ 0
          cases hn : a n with
          | true => rw [hn] at this; omega
          | false => rw [hn] at this; omega
      refine key (nums many.toNat) a0 (fun x hx hr => absurd (mem_nums.mpr ⟨hr.1, by omega⟩) hx) h
  · intro h
    exact sm_zero h _ _
end Nt
set_option maxRecDepth 100000
set_option maxHeartbeats 1000000
/-! NtC2: counting by the search: the stack of decisions, what is left to count. -/
namespace Nt
open PySem PySem.Spec PyProof.Rows L2
/-- how many hold with the literals D -/
def cw (n : Nat) (cs : List (List Int)) (D : List Int) : Nat := sm (nums n) a0 fun a => hold cs a && D.all (lit a)
theorem cw_split {n : Nat} {cs : List (List Int)} {D : List Int} {l : Int} (h : l ≠ 0) : cw n cs D = cw n cs (l :: D) + cw n cs (-l :: D) := by
  refine sm_add (fun a => ?_) _ _
  simp only [List.all_cons, lit_neg h, Bool.and_eq_true, Bool.not_eq_true']
  cases lit a l <;> simp
/-- the stack: the last decision first; true: its other way is done -/
abbrev Stk := List (Int × Bool)
def left (n : Nat) (cs : List (List Int)) : Stk → Nat
  | [] => 0
  | (l, f) :: r => left n cs r + if f = true then 0 else cw n cs (-l :: r.map (·.1))
def turnF : Stk → Option Stk
  | [] => none
  | (l, f) :: r => if f = true then turnF r else some ((-l, true) :: r)
theorem turn_none {n : Nat} {cs : List (List Int)} : ∀ {st : Stk}, turnF st = none → left n cs st = 0
  | [], _ => rfl
  | (l, true) :: r, h => by
    have h : turnF r = none := h
    show left n cs r + 0 = 0
    rw [turn_none h]
  | (l, false) :: r, h => by cases h
theorem turn_some {n : Nat} {cs : List (List Int)} : ∀ {st st' : Stk}, turnF st = some st' → left n cs st = left n cs st' + cw n cs (st'.map (·.1))
  | (l, true) :: r, st', h => by
    have h : turnF r = some st' := h
    show left n cs r + 0 = _
    rw [Nat.add_zero]; exact turn_some h
  | (l, false) :: r, st', h => by
    have h : some ((-l, true) :: r) = some st' := h
    cases h
    show left n cs r + cw n cs (-l :: r.map (·.1)) = (left n cs r + 0) + cw n cs (-l :: r.map (·.1))
    rw [Nat.add_zero]
/-- the weight of what is left to do -/
def sz (n j : Nat) : Nat := 2 ^ (n + 1 - j) - 1
def wt (n : Nat) : Stk → Nat
  | [] => 0
  | (_, f) :: r => wt n r + if f = true then 0 else sz n (r.length + 1)
def wAll (n : Nat) (st : Stk) : Nat := wt n st + sz n st.length
theorem sz_pos {n j : Nat} (h : j ≤ n) : 1 ≤ sz n j := by
  unfold sz
  have : 2 ^ 1 ≤ 2 ^ (n + 1 - j) := Nat.pow_le_pow_right (by decide) (by omega)
  omega
theorem wt_decide {n : Nat} {st : Stk} {l : Int} (h : st.length < n) : wAll n ((l, false) :: st) < wAll n st := by
  show wt n st + sz n (st.length + 1) + sz n (st.length + 1) < wt n st + sz n st.length
  unfold sz
  have e : 2 ^ (n + 1 - st.length) = 2 ^ (n + 1 - (st.length + 1)) + 2 ^ (n + 1 - (st.length + 1)) := by
    rw [show n + 1 - st.length = (n + 1 - (st.length + 1)) + 1 by omega, Nat.pow_succ]; omega
  have h1 : 1 ≤ 2 ^ (n + 1 - (st.length + 1)) := Nat.one_le_two_pow
  omega
theorem wt_turn {n : Nat} : ∀ {st st' : Stk}, turnF st = some st' → wt n st = wAll n st' ∧ st'.length ≤ st.length
  | (l, true) :: r, st', h => by
    have h : turnF r = some st' := h
    obtain ⟨h1, h2⟩ := wt_turn (n := n) h
    exact ⟨h1, Nat.le_succ_of_le h2⟩
  | (l, false) :: r, st', h => by
    have h : some ((-l, true) :: r) = some st' := h
    cases h
    refine ⟨?_, Nat.le_refl _⟩
    show wt n r + sz n (r.length + 1) = (wt n r + 0) + sz n (r.length + 1)
    omega
theorem wt_leaf {n : Nat} {st st' : Stk} (h : turnF st = some st') (hl : st.length ≤ n) : wAll n st' < wAll n st := by
  have h1 := (wt_turn (n := n) h).1
  have h2 := sz_pos hl
  unfold wAll at *
  omega
/-- the decisions of the state are those of the stack -/
def Dk (s : SS) (st : Stk) : Prop := s.mks.map (fun m => s.tr[m]?) = st.reverse.map fun x => some x.1
theorem Dk.len {s : SS} {st : Stk} (h : Dk s st) : s.mks.length = st.length := by
  have := congrArg List.length h
  simpa using this
theorem Dk.ext {s s' : SS} {st : Stk} (I : Iv s) (h : Dk s st) (x : Ext s s') : Dk s' st := by
  unfold Dk at *
  rw [← h, x.mks]
  refine List.map_congr_left fun m hm => ?_
  obtain ⟨y, hy⟩ := x.tr
  rw [hy, List.getElem?_append_left (I.mklt m hm)]
theorem Dk.mem {s : SS} {st : Stk} (h : Dk s st) {m : Nat} (hm : m ∈ s.mks) : ∃ x ∈ st, s.tr[m]? = some x.1 := by
  have h1 : s.tr[m]? ∈ s.mks.map fun m => s.tr[m]? := List.mem_map.mpr ⟨m, hm, rfl⟩
  rw [h] at h1
  obtain ⟨x, hx, e⟩ := List.mem_map.mp h1
  exact ⟨x, List.mem_reverse.mp hx, e.symm⟩
theorem Dk.mem' {s : SS} {st : Stk} (h : Dk s st) {x : Int × Bool} (hx : x ∈ st) : x.1 ∈ s.tr := by
  have h1 : some x.1 ∈ st.reverse.map fun x => some x.1 := List.mem_map.mpr ⟨x, List.mem_reverse.mpr hx, rfl⟩
  rw [← h] at h1
  obtain ⟨m, _, e⟩ := List.mem_map.mp h1
  exact List.mem_of_getElem? e
theorem Dk.nil {s : SS} (h : s.mks = []) : Dk s [] := by unfold Dk; rw [h]; rfl
theorem Dk.decide {s : SS} (I : Iv s) {st : Stk} (h : Dk s st) (l : Int) (f : Bool) : Dk (decideF s l) ((l, f) :: st) := by
  show (s.mks ++ [s.tr.length]).map (fun m => (s.tr ++ [l])[m]?) = ((l, f) :: st).reverse.map fun x => some x.1
  rw [List.map_append, List.reverse_cons, List.map_append, ← h]
  congr 1
  · refine List.map_congr_left fun m hm => ?_
    rw [List.getElem?_append_left (I.mklt m hm)]
  · simp
theorem Dk.back {s : SS} (I : Iv s) {st : Stk} {x : Int × Bool} (h : Dk s (x :: st)) : ∃ m, s.mks[s.mks.length - 1]? = some m ∧ s.tr[m]? = some x.1 ∧ Dk (backF s (s.mks.length - 1) m) st := by
  have hl := h.len
  rw [List.length_cons] at hl
  have hlt : s.mks.length - 1 < s.mks.length := by omega
  obtain ⟨m, hm⟩ : ∃ m, s.mks[s.mks.length - 1]? = some m := ⟨_, List.getElem?_eq_getElem hlt⟩
  have h' : s.mks.map (fun m => s.tr[m]?) = st.reverse.map (fun x => some x.1) ++ [some x.1] := by
    have := h
    unfold Dk at this
    rw [List.reverse_cons, List.map_append] at this
    exact this
  refine ⟨m, hm, ?_, ?_⟩
  · have h1 : (s.mks.map fun m => s.tr[m]?)[s.mks.length - 1]? = some (s.tr[m]?) := by rw [List.getElem?_map, hm]; rfl
    rw [h', List.getElem?_append_right (by rw [List.length_map, List.length_reverse]; omega)] at h1
    rw [List.length_map, List.length_reverse, show s.mks.length - 1 - st.length = 0 by omega] at h1
    exact (Option.some.inj h1).symm
  · show (s.mks.take (s.mks.length - 1)).map (fun i => (s.tr.take m)[i]?) = st.reverse.map fun x => some x.1
    have h2 : (s.mks.take (s.mks.length - 1)).map (fun i => (s.tr.take m)[i]?) = (s.mks.take (s.mks.length - 1)).map fun i => s.tr[i]? := by
      refine List.map_congr_left fun i hi => ?_
      rw [List.getElem?_take, if_pos (mk_take I.mkp hm i hi)]
    rw [h2, List.map_take, h', List.take_append_of_le_length (by rw [List.length_map, List.length_reverse]; omega)]
    rw [List.take_of_length_le (by rw [List.length_map, List.length_reverse]; omega)]
/-- where all hold, with the decisions, the whole trail does -/
theorem trail_lit {s : SS} (I : Iv s) {st : Stk} (D : Dk s st) {a : As} (h : hold (s.cl.map (·.2)) a = true) (hd : (st.map (·.1)).all (lit a) = true) : ∀ l ∈ s.tr, lit a l = true := by
  have key : ∀ (n i : Nat) (l : Int), i < n → s.tr[i]? = some l → lit a l = true := by
    intro n
    induction n with
    | zero => intro i l hi; omega
    | succ n ih =>
      intro i l hi hl
      by_cases hm : i ∈ s.mks
      · obtain ⟨x, hx, e⟩ := D.mem hm
        rw [hl] at e
        rw [Option.some.inj e]
        exact List.all_eq_true.mp hd _ (List.mem_map.mpr ⟨x, hx, rfl⟩)
      · obtain ⟨r, h1, h2, h3, h4⟩ := I.rsn i l hl hm
        obtain ⟨y, hy, hyl⟩ := hold_iff.mp h r.2 (List.mem_map.mpr ⟨r, h2, rfl⟩)
        by_cases e : y = l
        · rw [← e]; exact hyl
        · obtain ⟨k, hk, hk2⟩ := mem_take_ix.mp (h4 y hy e)
          have := ih k (-y) (by omega) hk2
          have nz := ((isCl_iff.mp (I.cl r h2)).1 y hy).1
          rw [lit_neg nz, hyl] at this
          cases this
  intro l hl
  obtain ⟨i, hi⟩ := List.getElem?_of_mem hl
  exact key (i + 1) i l (by omega) hi
/-- a clash: nothing is left below -/
theorem cw_clash {s : SS} (I : Iv s) {st : Stk} (D : Dk s st) {c : Cl} (hk : s.ks = some c) (n : Nat) : cw n (s.cl.map (·.2)) (st.map (·.1)) = 0 := by
  refine sm_zero (fun a => ?_) _ _
  cases h : hold (s.cl.map (·.2)) a && (st.map (·.1)).all (lit a) with
  | false => rfl
  | true =>
    rw [Bool.and_eq_true] at h
    have ht := trail_lit I D h.1 h.2
    obtain ⟨h1, h2⟩ := I.ks c hk
    obtain ⟨y, hy, hyl⟩ := hold_iff.mp h.1 c.2 (List.mem_map.mpr ⟨c, h1, rfl⟩)
    have := ht _ (h2 y hy)
    rw [lit_neg ((isCl_iff.mp (I.cl c h1)).1 y hy).1, hyl] at this
    cases this
/-- literals of distinct numbers: all but these are free -/
theorem cw_free : ∀ (T : List Int) (ns : List Int) (a : As), (T.map ab).Nodup → (∀ l ∈ T, l ≠ 0) → ns.Nodup → (∀ l ∈ T, ab l ∈ ns) → sm ns a (fun a => T.all (lit a)) = 2 ^ (ns.length - T.length)
  | [], ns, a, _, _, _, _ => sm_one (fun _ => rfl) ns a
  | l :: T, ns, a, hn, h0, hns, hm => by
    obtain ⟨n1, n2⟩ := List.nodup_cons.mp (show (ab l :: T.map ab).Nodup from hn)
    have hl := hm l List.mem_cons_self
    have p := List.perm_cons_erase hl
    rw [sm_perm p, p.length_eq]
    have nz := h0 l List.mem_cons_self
    have me : ∀ x, x ∈ ns.erase (ab l) ↔ x ≠ ab l ∧ x ∈ ns := fun x => hns.mem_erase_iff
    show sm (ns.erase (ab l)) (putA a (ab l) true) _ + sm (ns.erase (ab l)) (putA a (ab l) false) _ = _
    -- the literal's own number is fixed below
    have key : ∀ c, sm (ns.erase (ab l)) (putA a (ab l) c) (fun a => (l :: T).all (lit a)) = if lit (putA a (ab l) c) l = true then sm (ns.erase (ab l)) (putA a (ab l) c) (fun a => T.all (lit a)) else 0 := by
      intro c
      refine sm_const (P := fun a => lit a l) fun b hb => ?_
      exact lit_ab (hb _ fun z => ((me _).mp z).1 rfl)
    have ih := fun c => cw_free T (ns.erase (ab l)) (putA a (ab l) c) n2 (fun x hx => h0 x (List.mem_cons_of_mem _ hx)) (hns.erase _) fun x hx => (me _).mpr ⟨fun e => n1 (List.mem_map.mpr ⟨x, hx, e⟩), hm x (List.mem_cons_of_mem _ hx)⟩
    rw [key, key, ih, ih]
    have el : ∀ c, lit (putA a (ab l) c) l = if 0 < l then c else !c := by
      intro c
      unfold lit putA ab
      by_cases h1 : 0 < l
      · rw [if_pos h1, if_pos h1, if_pos (by rw [if_neg (by omega)])]
      · rw [if_neg h1, if_neg h1, if_pos (by rw [if_pos (by omega)])]
    rw [el, el]
    have e3 : (ab l :: ns.erase (ab l)).length - (l :: T).length = (ns.erase (ab l)).length - T.length := by simp
    rw [e3]
    by_cases h1 : 0 < l
    · simp [h1]
    · simp [h1]
/-- no clause open: all that is free is free -/
theorem cw_open {s : SS} (I : Iv s) {st : Stk} (D : Dk s st) (hs : ∀ c ∈ s.cl, ∃ l ∈ c.2, l ∈ s.tr) : cw s.many.toNat (s.cl.map (·.2)) (st.map (·.1)) = 2 ^ (s.many.toNat - s.tr.length) := by
  have e : cw s.many.toNat (s.cl.map (·.2)) (st.map (·.1)) = sm (nums s.many.toNat) a0 fun a => s.tr.all (lit a) := by
    refine sm_congr (fun a => ?_) _ _
    cases h : s.tr.all (lit a) with
    | true =>
      have h := List.all_eq_true.mp h
      rw [Bool.and_eq_true]
      refine ⟨hold_iff.mpr fun c hc => ?_, List.all_eq_true.mpr fun l hl => ?_⟩
      · obtain ⟨x, hx, rfl⟩ := List.mem_map.mp hc
        obtain ⟨l, h1, h2⟩ := hs x hx
        exact ⟨l, h1, h l h2⟩
      · obtain ⟨x, hx, rfl⟩ := List.mem_map.mp hl
        exact h _ (D.mem' hx)
    | false =>
      cases h2 : hold (s.cl.map (·.2)) a && (st.map (·.1)).all (lit a) with
      | false => rfl
      | true =>
        rw [Bool.and_eq_true] at h2
        have := List.all_eq_true.mpr (trail_lit I D h2.1 h2.2)
        rw [h] at this
        cases this
  have h0 := I.lo0
  rw [e, cw_free s.tr (nums s.many.toNat) a0 I.nd (fun l hl => (I.inr l hl).1) (nums_nodup _) fun l hl => mem_nums.mpr (by have := ab_in (I.inr l hl); omega), nums_len]
theorem cw_nil (many : Int) (cs : List (List Int)) : cw many.toNat cs [] = cnt many cs := sm_congr (fun a => by simp) _ _
end Nt
set_option maxRecDepth 100000
set_option maxHeartbeats 1000000
/-! NtX: counting: doubled, first_open, turn, count_by. -/
namespace Nt
open PySem PySem.Spec PyProof.Rows L2
def dbl (t most : Nat) : Nat := min (2 ^ t) (most + 1)
theorem dbl_succ (t most : Nat) : dbl (t + 1) most = min (2 * dbl t most) (most + 1) := by
  unfold dbl
  rw [Nat.pow_succ]
  omega
def sp_doubled (K : PySem.W.Frag) : Sp := fun vs H Q _ => ∃ (t most : Nat), vs = [.int (t : Int), .int (most : Int)] ∧ t ≤ 10000 ∧ most ≤ 1000000 ∧ ∀ H', Same H H' → Q (.int (dbl t most : Nat)) H'
theorem len_doubled (K : PySem.W.Frag) : ∀ vs H Q E, sp_doubled K vs H Q E → vs.length = 2 := by
  rintro vs H Q E ⟨t, most, rfl, _⟩; rfl
def sp_first_open (K : PySem.W.Frag) : Sp := fun vs H Q _ => ∃ (p : Addr) (H0 : Hp) (A : Ad) (s : SS), vs = [.ref p] ∧ SAt1 K H0 H p A s ∧ Iv s ∧ (∀ c ∈ s.cl, Quiet s.tr c.2) ∧ s.cl.length ≤ 100000 ∧
  ((∀ c ∈ s.cl, ∃ l ∈ c.2, l ∈ s.tr) → ∀ H', Same H H' → Q .non H') ∧ ∀ n, Opn s n → ∀ H', Same H H' → Q (.int n) H'
theorem len_first_open (K : PySem.W.Frag) : ∀ vs H Q E, sp_first_open K vs H Q E → vs.length = 1 := by
  rintro vs H Q E ⟨p, H0, A, s, rfl, _⟩; rfl
def flags (st : Stk) : List V := st.reverse.map fun x => .bl x.2
def sp_turn (K : PySem.W.Frag) : Sp := fun vs H Q _ => ∃ (p ta : Addr) (H0 : Hp) (A : Ad) (s : SS) (st : Stk), vs = [.ref p, .ref ta] ∧ SAt1 K (upd H0 ta (.lst (flags st))) H p A s ∧ Iv s ∧ Dk s st ∧
  (turnF st = none → ∀ H' A' s' fl, SAt1 K (upd H0 ta (.lst fl)) H' p A' s' → Q (.bl false) H') ∧
  ∀ st', turnF st = some st' → ∀ H' A' s', SAt1 K (upd H0 ta (.lst (flags st'))) H' p A' s' → Iv s' → Pn s' [] → Dk s' st' → s'.cl = s.cl → s'.many = s.many → Q (.bl true) H'
theorem len_turn (K : PySem.W.Frag) : ∀ vs H Q E, sp_turn K vs H Q E → vs.length = 2 := by
  rintro vs H Q E ⟨p, ta, H0, A, s, st, rfl, _⟩; rfl
theorem upd_upd {H : Hp} {a : Addr} {o u : HO} : upd (upd H a o) a u = upd H a u := by
  funext x
  by_cases e : x = a
  · rw [e, upd_same, upd_same]
  · rw [upd_ne e, upd_ne e, upd_ne e]
section
variable {P : Program} {w : World} {K : PySem.W.Frag} {mg : Str → Option Value} {base : Heap}
theorem sc_doubled : FnScope ["times", "most", "found", "lap"] ["times", "most"] (defScope s_doubled) := ⟨rfl, rfl, rfl, by decide +kernel, rfl, by decide +kernel, by decide +kernel⟩
theorem ok_doubled (T : Tx K mg)  : CalF P w K mg base ("doubled", none) 1 ["times", "most"] (sp_doubled K) := by
  have mg_range : mg "range" = none := T.free 66
  have mg_min : mg "min" = none := T.free 65
  refine calF T (d := d_doubled) 36 rfl sc_doubled rfl rfl (fun _ _ _ _ _ _ us hl => match us, hl with | [_, _], _ => rfl) (len_doubled K) ?_
  intro cdv A outer s H vs Q E hr h
  have hu := hu_of hr
  obtain ⟨t, most, rfl, ht, hm, k⟩ := h
  refine ⟨_, (pss_cons (ps_set (i := 2) sc_doubled.nd rfl (Or.inl rfl) pe_int)
      (pss_cons (ps_for PassesOwn.never rfl (pi_range1 (by rfl) mg_range (pa_cons (pv 0) pa_nil)) (pg_name (i := 3) sc_doubled.nd rfl (Or.inl rfl)) (pss_one (ps_set (i := 2) sc_doubled.nd rfl (Or.inl rfl) (pe_callB (call_min2 rfl) (by rfl) mg_min bt_min (pa_cons (pe_op op_mulW pe_int (pv 2)) (pa_cons (pe_op op_add (pv 1) pe_int) pa_nil))))))
      (pss_one (ps_ret (pv 2))))), ?_⟩
  refine ⟨_, rfl, (t : Int), rfl, by omega, by omega, ?_⟩
  have wk := wkR (lo := 0) (n := t)
  refine forA ((List.range t).map fun (i : Nat) => (0 : Int) + (i : Int)) (fun σ l => σ.set 3 (some (.int l))) wk (fun σ => yName) (fun don σ H2 => ∃ x, σ = [some (.int t), some (.int most), some (.int (dbl don.length most : Nat)), x] ∧ Same H H2) ⟨none, ?_, Same.refl _⟩ (fun _ _ _ _ => trivial) ?_ ?_
  · have : dbl 0 most = 1 := by unfold dbl; omega
    show _ = [some (V.int t), some (.int most), some (.int (dbl 0 most : Nat)), none]
    rw [this]; rfl
  · rintro l x r σ H2 H3 e ⟨y, rfl, s2⟩ s3
    have hd : dbl l.length most ≤ 1000001 := by unfold dbl; omega
    refine ⟨_, rfl, _, _, rfl, rfl, wide_mul (a := 2) (b := 20) (by decide) (by show _ < 1048576; omega) (by decide) (by decide) (by decide), _, rfl, _, _, rfl, rfl, _, _, rfl, some (.int x), ?_, s2.trans s3⟩
    rw [List.length_append]
    show _ = [some (V.int t), some (.int most), some (.int (dbl (l.length + 1) most : Nat)), _]
    rw [dbl_succ]
    have e2 : (if ((most : Int) + 1) < 2 * (dbl l.length most : Nat) then ((most : Int) + 1) else 2 * (dbl l.length most : Nat)) = ((min (2 * dbl l.length most) (most + 1) : Nat) : Int) := by
      split <;> omega
    rw [← e2]
    rfl
  · rintro σ H2 ⟨x, rfl, s2⟩
    refine ⟨_, rfl, ?_⟩
    rw [List.length_map, List.length_range]; exact k H2 s2
theorem sc_first_open : FnScope ["search", "clause", "one"] ["search"] (defScope s_first_open) := ⟨rfl, rfl, rfl, by decide +kernel, rfl, by decide +kernel, by decide +kernel⟩
theorem ok_first_open (T : Tx K mg)  : CalF P w K mg base ("first_open", none) 1 ["search"] (sp_first_open K) := by
  have mg_any : mg "any" = none := T.free 56
  have mg_min : mg "min" = none := T.free 65
  have mg_abs : mg "abs" = none := T.free 54
  have cl_Search : Cls K (He.ga K "Search") := T.cls 89
  have no_Search_clauses : NoAttr K (He.ga K "Search") "clauses" := T.noat 106
  have no_Search_sure : NoAttr K (He.ga K "Search") "sure" := T.noat 113
  refine calF T (d := d_first_open) 37 rfl sc_first_open rfl rfl (fun _ _ _ _ _ _ us hl => match us, hl with | [_], _ => rfl) (len_first_open K) ?_
  intro cdv A outer s H vs Q E hr h
  have hu := hu_of hr
  obtain ⟨p, H0, A, s, rfl, G, I, hq, hl, k1, k2⟩ := h
  refine ⟨_, (pss_cons (ps_for PassesOwn.never rfl (pi_listK (K := K) rfl (pe_fld2 cl_Search no_Search_clauses (pv 0))) (pg_name (i := 1) sc_first_open.nd rfl (Or.inl rfl)) (pss_one (ps_if (pt_not (pt_val (pe_callB (cr_any2 rfl) (by rfl) mg_any bt_any (pa_cons (pe_lc (own := [("one", 2)]) (g := gName 2) (tt := tYes) rfl sc_first_open.nd (pi_tupK (K := K) rfl (pv 1)) (blkOk_by (by kernel_rfl)) (fun _ _ _ _ _ => (pg_name (i := 2) sc_first_open.nd rfl (Or.inl rfl))) (fun _ _ _ _ _ => pts_nil) (fun _ _ _ _ _ => (pe_cmp (pc_din hu (pv 2) (pe_fld2 cl_Search no_Search_sure (pv 0)))))) pa_nil)))) (pss_one (ps_ret (pe_callB (cr_min2 rfl) (by rfl) mg_min bt_min (pa_cons (pe_lc (own := [("one", 2)]) (g := gName 2) rfl sc_first_open.nd (pi_tupK (K := K) rfl (pv 1)) (blkOk_by (by kernel_rfl)) (fun _ _ _ _ _ => (pg_name (i := 2) sc_first_open.nd rfl (Or.inl rfl))) (fun _ _ _ _ _ => (pts_one (pt_cmp (pc_dnotin hu (pe_op op_sub pe_int (pv 2)) (pe_fld2 cl_Search no_Search_sure (pv 0)))))) (fun _ _ _ _ _ => (pe_callB call_abs (by rfl) mg_abs bt_abs (pa_cons (pv 2) pa_nil)))) pa_nil)))) pss_nil)))
      (pss_one (ps_ret pe_non))), ?_⟩
  refine ⟨_, rfl, _, _, _, _, rfl, G.ins, rfl, A.a, rfl, ⟨_, SqL.of G.ha⟩, ?_⟩
  refine forA s.cl (fun σ x => σ.set 1 (some (rf x))) (wkL s.cl rf) (fun σ => yName) (fun don σ H2 => ∃ x, σ = [some (.ref p), x, none] ∧ Same H H2 ∧ ∀ c ∈ don, ∃ l ∈ c.2, l ∈ s.tr) ⟨none, rfl, Same.refl _, fun _ h => (by cases h)⟩ (fun l σ H2 ⟨x, _, s2, _⟩ => SqL.of (s2 _ _ G.ha)) ?_ ?_
  · rintro l c r σ H2 H3 e ⟨x, rfl, s2, hd⟩ s3
    have s23 := s2.trans s3
    have G3 := G.grow s23
    have hcm : c ∈ s.cl := by rw [e]; simp
    have hc := G3.cls c hcm
    have hcl := isCl_iff.mp (I.cl c hcm)
    have hlen : c.2.length ≤ 100 := Nat.le_trans (isCl_len I.lo0 (I.cl c hcm)) (by have := I.hi; omega)
    refine ⟨_, rfl, c.1, rfl, ⟨_, SqT.of hc⟩, ?_⟩
    refine lcV0 c.2 _ (wkT c.2 V.int) yName (fun l => .bl (decide (l ∈ s.tr))) (by omega) (by intro _; rfl) (fun H h => SqT.of (h _ _ hc)) ?_ ?_
    · intro l hl H4 s4 Qe q
      have G4 := G3.grow s4
      refine ⟨_, rfl, _, rfl, _, _, _, _, rfl, G4.ins, rfl, A.u, _, rfl, DGet.k (k := Sum.inl l) G4.hu, ?_⟩
      rw [valV_true]
      exact q _ (Same.refl _)
    · intro D H4 _ s4 h4
      refine ⟨_, _, _, _, rfl, h4, _, rfl, ?_⟩
      have G4 := G3.grow s4
      cases ea : c.2.any fun l => decide (l ∈ s.tr) with
      | true =>
        refine iteF ?_
        refine ⟨_, rfl, s23.trans s4, fun y hy => ?_⟩
        rcases List.mem_append.mp hy with hy | hy
        · exact hd y hy
        · rw [List.mem_singleton.mp hy]
          obtain ⟨l, h1, h2⟩ := List.any_eq_true.mp ea
          exact ⟨l, h1, of_decide_eq_true h2⟩
      | false =>
        refine iteT ?_
        have hno : ∀ l ∈ c.2, l ∉ s.tr := fun l hl h => by
          have := List.any_eq_false.mp ea l hl
          exact this (decide_eq_true h)
        have hc4 := s4 _ _ hc
        refine ⟨_, rfl, c.1, rfl, ⟨_, SqT.of hc4⟩, ?_⟩
        refine lcV c.2 _ (wkT c.2 V.int) yName (fun l => decide (-l ∉ s.tr)) (fun l => .int (ab l)) (by omega) (by intro _; rfl) (fun H h => SqT.of (h _ _ hc4)) ?_ ?_ ?_
        · intro l hl H5 s5 Qb q
          have G5 := G4.grow s5
          refine ⟨_, rfl, _, _, rfl, rfl, _, rfl, _, _, _, _, rfl, G5.ins, rfl, A.u, _, rfl, DGet.k (k := Sum.inl (0 - l)) G5.hu, ?_⟩
          rw [valV_true, Int.zero_sub]
          have q := q _ (Same.refl _)
          by_cases e2 : -l ∈ s.tr
          · rw [decide_eq_false (fun z => z e2)] at q
            rw [decide_eq_true e2]; exact ⟨_, rfl, q⟩
          · rw [decide_eq_true e2] at q
            rw [decide_eq_false e2]; exact ⟨_, rfl, q⟩
        · intro l hl H5 _ s5 Qe q
          exact ⟨_, rfl, l, rfl, q _ (Same.refl _)⟩
        · intro D2 H5 _ s5 h5
          have e5 : ((c.2.filter fun l => decide (-l ∉ s.tr)).map fun l => V.int (ab l)) = ((c.2.filter fun l => decide (-l ∉ s.tr)).map ab).map V.int := by rw [List.map_map]; rfl
          rw [e5] at h5
          refine ⟨D2, _, rfl, h5, ?_, fun m hm hmin => ?_⟩
          · rw [List.length_map]
            rcases hq c hcm with ⟨l, h1, h2⟩ | ⟨a, ha, b, _, _, o1, _⟩
            · exact absurd h2 (hno l h1)
            · exact List.length_pos_of_mem (List.mem_filter.mpr ⟨ha, decide_eq_true o1⟩)
          · obtain ⟨l, hl, rfl⟩ := List.mem_map.mp hm
            rw [List.mem_filter] at hl
            have o1 : -l ∉ s.tr := of_decide_eq_true hl.2
            have o2 := hno l hl.1
            have hr := ab_in (hcl.1 l hl.1)
            refine k2 (ab l) ⟨hr.1, hr.2, ?_, ?_⟩ H5 (s23.trans (s4.trans s5))
            · unfold ab; split <;> assumption
            · unfold ab; split
              · rw [Int.neg_neg]; exact o2
              · exact o1
  · rintro σ H2 ⟨x, rfl, s2, hd⟩
    exact k1 hd H2 s2
theorem flags_cons (l : Int) (f : Bool) (r : Stk) : flags ((l, f) :: r) = flags r ++ [.bl f] := by
  unfold flags
  rw [List.reverse_cons, List.map_append]; rfl
theorem flags_len (st : Stk) : (flags st).length = st.length := by unfold flags; rw [List.length_map, List.length_reverse]
theorem flags_dd {H : Hp} (st : Stk) : ∀ v ∈ flags st, Dd H v := by
  intro v hv
  obtain ⟨x, _, rfl⟩ := List.mem_map.mp hv
  exact .inr (.inl ⟨_, rfl⟩)
theorem at_last {α : Type} (xs : List α) (x : α) : atI (xs ++ [x]) (-1) = some x := by
  unfold atI
  have ei : ixN (xs ++ [x]).length (-1) = some xs.length := by
    unfold ixN
    rw [List.length_append, if_neg (by omega), if_pos (by simp; omega)]
    congr 1
    simp
    omega
  rw [ei]
  show (xs ++ [x])[xs.length]? = some x
  simp
theorem sc_turn : FnScope ["search", "turned", "literal"] ["search", "turned"] (defScope s_turn) := ⟨rfl, rfl, rfl, by decide +kernel, rfl, by decide +kernel, by decide +kernel⟩
theorem ok_turn (T : Tx K mg) (C_Search_back_to : CalF P w K mg base ("Search", some "back_to") 1 ["self", "level"] (sp_Search_back_to K)) (C_Search_decide : CalF P w K mg base ("Search", some "decide") 2 ["self", "literal"] (sp_Search_decide K)) : CalF P w K mg base ("turn", none) 3 ["search", "turned"] (sp_turn K) := by
  have mg_len : mg "len" = none := T.free 62
  obtain ⟨fd_Search_back_to, b_Search_back_to, G_Search_back_to, kp_Search_back_to⟩ := C_Search_back_to
  obtain ⟨fd_Search_decide, b_Search_decide, G_Search_decide, kp_Search_decide⟩ := C_Search_decide
  have mt_Search_back_to : Meth K (He.ga K "Search") "back_to" (He.ma K (He.ga K "Search") "back_to") := T.meth 98
  have mt_Search_decide : Meth K (He.ga K "Search") "decide" (He.ma K (He.ga K "Search") "decide") := T.meth 96
  have cl_Search : Cls K (He.ga K "Search") := T.cls 89
  have no_Search_trail : NoAttr K (He.ga K "Search") "trail" := T.noat 114
  have no_Search_marks : NoAttr K (He.ga K "Search") "marks" := T.noat 111
  refine calF T (d := d_turn) 38 rfl sc_turn rfl rfl (fun _ _ _ _ _ _ us hl => match us, hl with | [_, _], _ => rfl) (len_turn K) ?_
  intro cdv A outer s H vs Q E hr h
  have hu := hu_of hr
  obtain ⟨p, ta, H0, A, s, st, rfl, G, I, D, k1, k2⟩ := h
  refine ⟨_, (pss_cons (ps_while PassesOwn.never (PW.pt (pw_and (pt_cmpR (op_neE hr.units) (pv 1) (pe_lst pa_nil) (nomark _)) (pw_and1 (pt_val (pe_ix ix_list2 (pv 1) (pe_un un_neg pe_int) (fun _ _ => rfl)))))) (pss_cons (ps_expr (pe_bm0 PySem.F.plainAttrs_list PySem.F.slot_list_pop PySem.F.type_list_pop mt_pop (pv 1)))
      (pss_one (ps_expr (pe_meth (pv 0) cl_Search mt_Search_back_to G_Search_back_to (hr.mono (by decide)) b_Search_back_to .nil pass0 (pa_cons (pe_op op_sub (pe_callB call_len2 (by rfl) mg_len bt_len (pa_cons (pe_fld2 cl_Search no_Search_marks (pv 0)) pa_nil)) pe_int) pa_nil))))))
      (pss_cons (ps_if (pt_cmpR (op_eqE hr.units) (pv 1) (pe_lst pa_nil) (nomark _)) (pss_one (ps_ret pe_bl)) pss_nil)
      (pss_cons (ps_set (i := 2) sc_turn.nd rfl (Or.inl rfl) (pe_ix ix_list2 (pe_fld2 cl_Search no_Search_trail (pv 0)) (pe_ix ix_list2 (pe_fld2 cl_Search no_Search_marks (pv 0)) (pe_un un_neg pe_int) (fun _ _ => rfl)) (fun _ _ => rfl)))
      (pss_cons (ps_expr (pe_meth (pv 0) cl_Search mt_Search_back_to G_Search_back_to (hr.mono (by decide)) b_Search_back_to .nil pass0 (pa_cons (pe_op op_sub (pe_callB call_len2 (by rfl) mg_len bt_len (pa_cons (pe_fld2 cl_Search no_Search_marks (pv 0)) pa_nil)) pe_int) pa_nil)))
      (pss_cons (ps_expr (pe_meth (pv 0) cl_Search mt_Search_decide G_Search_decide (hr.mono (by decide)) b_Search_decide .nil pass0 (pa_cons (pe_op op_sub pe_int (pv 2)) pa_nil)))
      (pss_cons (ps_asg pe_bl (pg_sub (pv 1) (pe_un un_neg pe_int) set_list))
      (pss_one (ps_ret pe_bl)))))))), ?_⟩
  refine ⟨fun m σ H2 => ∃ A2 s2 st2, σ = [some (.ref p), some (.ref ta), none] ∧ SAt1 K (upd H0 ta (.lst (flags st2))) H2 p A2 s2 ∧ Iv s2 ∧ Dk s2 st2 ∧ turnF st2 = turnF st ∧ s2.cl = s.cl ∧ s2.many = s.many ∧ m = st2.length, ⟨_, A, s, st, rfl, G, I, D, rfl, rfl, rfl, rfl⟩, ?_⟩
  rintro m σ H2 ⟨A2, s2, st2, rfl, G2, I2, D2, e2, c2, m2, rfl⟩
  have hta := G2.same _ _ (upd_same (H := H0) (a := ta) (o := .lst (flags st2)))
  refine ⟨_, rfl, Nat.zero_le _, fun e he => ?_⟩
  have ge := Same.new (o := .lst []) he
  have G3 := G2.grow ge
  refine ⟨ta, e, _, rfl, rfl, .inl ⟨ge _ _ hta, upd_same⟩, flags_dd st2, _, rfl, ?_⟩
  -- to the level above: what a way back brings
  have back : ∀ (l : Int) (f : Bool) (r : Stk) (H4 : Hp), st2 = (l, f) :: r → SAt1 K (upd H0 ta (.lst (flags st2))) H4 p A2 s2 → ∃ m, s2.mks[s2.mks.length - 1]? = some m ∧ s2.tr[m]? = some l ∧ Iv (backF s2 (s2.mks.length - 1) m) ∧ Dk (backF s2 (s2.mks.length - 1) m) r ∧ (∀ c ∈ s2.cl, Quiet (s2.tr.take m) c.2) ∧ (backF s2 (s2.mks.length - 1) m).at_ = (backF s2 (s2.mks.length - 1) m).tr.length ∧ 1 ≤ s2.mks.length := by
    intro l f r H4 es g
    rw [es] at D2
    obtain ⟨m, h1, h2, h3⟩ := D2.back I2
    obtain ⟨b1, b2, b3⟩ := back_ok I2 h1
    have := (List.getElem?_eq_some_iff.mp h1).1
    exact ⟨m, h1, h2, b1, h3, b2, b3, by omega⟩
  have ej : 1 ≤ s2.mks.length → (((s2.mks.map fun m => V.int (m : Nat)).length : Nat) : Int) - 1 = ((s2.mks.length - 1 : Nat) : Int) := fun h => by rw [List.length_map]; omega
  match st2, e2, G2, D2, hta, G3, back with
  | [], e2, G2, D2, hta, G3, _ =>
    refine iteF (iteF ?_)
    refine ⟨_, rfl, Nat.zero_le _, fun e5 he5 => ?_⟩
    have g5 := ge.trans (Same.new (o := .lst []) he5)
    refine ⟨ta, e5, _, rfl, rfl, .inl ⟨g5 _ _ hta, upd_same⟩, flags_dd [], _, rfl, iteT ?_⟩
    exact k1 e2.symm _ A2 s2 _ (G2.grow g5)
  | (l, true) :: r, e2, G2, D2, hta, G3, back =>
    have ene : (!(flags ((l, true) :: r)).isEmpty) = true := by rw [flags_cons]; simp
    rw [ene]
    refine iteT ?_
    have hta3 := ge _ _ hta
    rw [flags_cons] at hta3
    refine ⟨_, rfl, _, rfl, ta, _, _, _, rfl, rfl, hta3, at_last _ _, _, rfl, iteT ⟨_, fun _ _ h => h, ?_⟩⟩
    refine ⟨_, rfl, .inl ⟨rfl, _, SqL.of hta3⟩, ta, _, .bl true, rfl, rfl, hta3, by simp, ?_⟩
    rw [List.dropLast_concat]
    have G4 : SAt1 K (upd H0 ta (.lst (flags r))) (upd (upd H2 e (.lst [])) ta (.lst (flags r))) p A2 s2 := by
      have := G3.frame (x := ta) (o := .lst (flags r)) (.inr ⟨_, upd_same⟩) (G3.cls.upd hta3 (by intro xs z; cases z))
      rw [upd_upd] at this
      exact this
    obtain ⟨m, b1, b2, b3, b4, b5, b6, b7⟩ := back _ _ _ (upd H2 e (.lst [])) rfl G3
    refine ⟨_, rfl, p, _, _, rfl, G4.ins, rfl, _, rfl, _, _, _, _, rfl, G4.ins, rfl, A2.k, _, rfl, .inl G4.hk, _, _, rfl, rfl, p, _, A2, s2, s2.mks.length - 1, m, ?_, G4, I2, b1, fun H5 A5 G5 => ?_⟩
    · rw [← ej b7]; rfl
    · exact ⟨r.length, Nat.lt_succ_self _, A5, _, r, rfl, G5, b3, b4, e2, c2, m2, rfl⟩
  | (l, false) :: r, e2, G2, D2, hta, G3, back =>
    have ene : (!(flags ((l, false) :: r)).isEmpty) = true := by rw [flags_cons]; simp
    rw [ene]
    refine iteT ?_
    have hta3 := ge _ _ hta
    rw [flags_cons] at hta3
    refine ⟨_, rfl, _, rfl, ta, _, _, _, rfl, rfl, hta3, at_last _ _, _, rfl, iteF ?_⟩
    refine ⟨_, rfl, Nat.zero_le _, fun e5 he5 => ?_⟩
    have g5 := Same.new (o := .lst []) he5
    have hta5 := g5 _ _ hta3
    have G5 := G3.grow g5
    refine ⟨ta, e5, _, rfl, rfl, .inl ⟨hta5, upd_same⟩, by rw [← flags_cons l]; exact flags_dd _, _, rfl, ?_⟩
    have ene2 : (flags r ++ [V.bl false]).isEmpty = false := by simp
    rw [ene2]
    refine iteF ?_
    obtain ⟨m, b1, b2, b3, b4, b5, b6, b7⟩ := back _ _ _ (upd (upd H2 e (.lst [])) e5 (.lst [])) rfl G5
    have emk : (s2.mks.map fun m => V.int (m : Nat)) = ((s2.mks.dropLast).map fun m => V.int (m : Nat)) ++ [.int (m : Nat)] := by
      have hne : s2.mks ≠ [] := fun z => by rw [z] at b7; simp at b7
      have e1 := List.dropLast_concat_getLast hne
      have e3 : s2.mks.getLast hne = m := by
        have := List.getLast_eq_getElem hne
        rw [this]
        exact (List.getElem?_eq_some_iff.mp b1).2
      rw [e3] at e1
      conv => lhs; rw [← e1]
      rw [List.map_append]; rfl
    have hk5 := G5.hk
    rw [emk] at hk5
    have hat : atI (s2.tr.map V.int) (m : Int) = some (.int l) := atI_nat (by rw [List.getElem?_map, b2]; rfl)
    refine ⟨_, rfl, _, _, _, _, rfl, G5.ins, rfl, _, rfl, _, _, _, _, rfl, G5.ins, rfl, _, rfl, A2.k, _, _, _, rfl, rfl, hk5, at_last _ _, A2.t, _, _, _, rfl, rfl, G5.ht, hat, ?_⟩
    refine ⟨_, rfl, p, _, _, rfl, G5.ins, rfl, _, rfl, _, _, _, _, rfl, G5.ins, rfl, A2.k, _, rfl, .inl G5.hk, _, _, rfl, rfl, p, _, A2, s2, s2.mks.length - 1, m, ?_, G5, I2, b1, fun H6 A6 G6 => ?_⟩
    · rw [← ej b7]; rfl
    · have hl := I2.inr l (List.mem_of_getElem? b2)
      have hml := (List.getElem?_eq_some_iff.mp b2).1
      have n1 : l ∉ s2.tr.take m := fun h => by
        obtain ⟨i, hi, hi2⟩ := mem_take_ix.mp h
        have := I2.at_one hi2 b2
        omega
      have n2 : -l ∉ s2.tr.take m := fun h => I2.cons (List.mem_of_getElem? b2) (List.mem_of_mem_take h)
      have n1' : -(-l) ∉ s2.tr.take m := by rw [Int.neg_neg]; exact n1
      refine ⟨_, rfl, p, _, _, rfl, G6.ins, rfl, _, rfl, _, _, rfl, rfl, p, _, A6, _, -l, by rw [← Int.zero_sub]; rfl, G6, b3, hl.neg, n2, n1', fun H7 G7 => ?_⟩
      have hta7 := G7.same _ _ (upd_same (H := H0) (a := ta) (o := .lst (flags ((l, false) :: r))))
      rw [flags_cons] at hta7
      have eix : ixN (flags r ++ [V.bl false]).length (-1) = some (flags r).length := by
        unfold ixN
        rw [List.length_append, if_neg (by omega), if_pos (by simp; omega)]
        congr 1
        simp
        omega
      refine ⟨_, rfl, _, rfl, ta, _, _, _, rfl, rfl, hta7, eix, ?_⟩
      have eset : (flags r ++ [V.bl false]).set (flags r).length (.bl true) = flags ((-l, true) :: r) := by
        rw [flags_cons]; simp
      rw [eset]
      have I8 := decide_iv b3 (l := -l) hl.neg n2 n1' b5 b6
      have P6 : Pn (backF s2 (s2.mks.length - 1) m) [] := fun _ c hc => .inr (.inl (b5 c hc))
      refine k2 ((-l, true) :: r) e2.symm _ A6 (decideF (backF s2 (s2.mks.length - 1) m) (-l)) ?_ I8 (snoc_pn (s := backF s2 (s2.mks.length - 1) m) (l := -l) P6 b3.at_ _ rfl rfl rfl rfl) (b4.decide b3 (-l) true) c2 m2
      have := G7.frame (x := ta) (o := .lst (flags ((-l, true) :: r))) (.inr ⟨_, upd_same⟩) (G7.cls.upd hta7 (by intro xs z; cases z))
      rw [upd_upd] at this
      exact this
end
end Nt
set_option maxRecDepth 100000
set_option maxHeartbeats 1000000
/-! NtX2: count_by. -/
namespace Nt
open PySem PySem.Spec PyProof.Rows L2
def sp_count_by (K : PySem.W.Frag) : Sp := fun vs H Q _ => ∃ (v : Addr) (many : Int) (most : Nat) (as : List Cl), vs = [.int many, .ref v, .int (most : Int)] ∧ SAsk H v many as ∧ cnt many (as.map (·.2)) ≤ most ∧ most ≤ 1000000 ∧ ∀ H', Same H H' → Q (.int (cnt many (as.map (·.2)) : Nat)) H'
theorem len_count_by (K : PySem.W.Frag) : ∀ vs H Q E, sp_count_by K vs H Q E → vs.length = 3 := by
  rintro vs H Q E ⟨v, many, most, as, rfl, _⟩; rfl
/-- where the counting stands -/
structure CI (many : Int) (as : List Cl) (st : Stk) (found : Nat) (s : SS) : Prop where
  iv : Iv s
  pn : Pn s []
  dk : Dk s st
  cl : s.cl = as
  mny : s.many = many
  sum : found + left many.toNat (as.map (·.2)) st + cw many.toNat (as.map (·.2)) (st.map (·.1)) = cnt many (as.map (·.2))
theorem mks_len {s : SS} (I : Iv s) : s.mks.length ≤ s.tr.length := by
  have h1 := List.Nodup.length_le_of_subset (l₁ := s.mks) (l₂ := List.range s.tr.length) (I.mkp.imp fun h => by omega) fun m hm => List.mem_range.mpr (I.mklt m hm)
  rwa [List.length_range] at h1
section
variable {P : Program} {w : World} {K : PySem.W.Frag} {mg : Str → Option Value} {base : Heap}
theorem sc_count_by : FnScope ["many", "clauses", "most", "search", "turned", "found", "is_on", "number"] ["many", "clauses", "most"] (defScope s_count_by) := ⟨rfl, rfl, rfl, by decide +kernel, rfl, by decide +kernel, by decide +kernel⟩
theorem ok_count_by (T : Tx K mg) (C_first_open : CalF P w K mg base ("first_open", none) 1 ["search"] (sp_first_open K)) (C_turn : CalF P w K mg base ("turn", none) 3 ["search", "turned"] (sp_turn K)) (C_doubled : CalF P w K mg base ("doubled", none) 1 ["times", "most"] (sp_doubled K)) (C_Search_spread : CalF P w K mg base ("Search", some "spread") 3 ["self"] (sp_Search_spread K)) (C_Search_decide : CalF P w K mg base ("Search", some "decide") 2 ["self", "literal"] (sp_Search_decide K)) (C_Search_init : CalF P w K mg base ("Search", some "__init__") 4 ["self", "many", "clauses"] (sp_Search_init K)) : CalF P w K mg base ("count_by", none) 6 ["many", "clauses", "most"] (sp_count_by K) := by
  have mg_len : mg "len" = none := T.free 62
  obtain ⟨fd_first_open, b_first_open, G_first_open, kp_first_open⟩ := C_first_open
  obtain ⟨fd_turn, b_turn, G_turn, kp_turn⟩ := C_turn
  obtain ⟨fd_doubled, b_doubled, G_doubled, kp_doubled⟩ := C_doubled
  obtain ⟨fd_Search_spread, b_Search_spread, G_Search_spread, kp_Search_spread⟩ := C_Search_spread
  obtain ⟨fd_Search_decide, b_Search_decide, G_Search_decide, kp_Search_decide⟩ := C_Search_decide
  obtain ⟨fd_Search_init, b_Search_init, G_Search_init, kp_Search_init⟩ := C_Search_init
  have mg_first_open : mg "first_open" = some (.ref (He.ga K "first_open")) := T.glo 21
  have mg_turn : mg "turn" = some (.ref (He.ga K "turn")) := T.glo 22
  have mg_doubled : mg "doubled" = some (.ref (He.ga K "doubled")) := T.glo 20
  have mt_Search_spread : Meth K (He.ga K "Search") "spread" (He.ma K (He.ga K "Search") "spread") := T.meth 95
  have mt_Search_decide : Meth K (He.ga K "Search") "decide" (He.ma K (He.ga K "Search") "decide") := T.meth 96
  have mg_Search : mg "Search" = some (.ref (He.ga K "Search")) := T.glo 90
  have M_Search : Mk K (He.ga K "Search") (He.ma K (He.ga K "Search") "__init__") := T.mkr 91
  have cl_Search : Cls K (He.ga K "Search") := T.cls 89
  have no_Search_clash : NoAttr K (He.ga K "Search") "clash" := T.noat 105
  have no_Search_sure : NoAttr K (He.ga K "Search") "sure" := T.noat 113
  refine calF T (d := d_count_by) 39 rfl sc_count_by rfl rfl (fun _ _ _ _ _ _ us hl => match us, hl with | [_, _, _], _ => rfl) (len_count_by K) ?_
  intro cdv A outer s H vs Q E hr h
  have hu := hu_of hr
  obtain ⟨v, many, most, as, rfl, S0, hcnt, hmost, k⟩ := h
  have hlo := S0.lo
  have hhi := S0.hi
  have hlen := S0.len
  refine ⟨_, (pss_cons (ps_asg (pe_tup (pa_cons (pe_make M_Search G_Search_init (hr.mono (by decide)) (by rfl) mg_Search b_Search_init .nil pass0 (pa_cons (pv 0) (pa_cons (pv 1) pa_nil))) (pa_cons (pe_lst pa_nil) (pa_cons pe_int (pa_cons pe_bl pa_nil))))) (pg_tup rfl (pgs_cons (pg_name (i := 3) sc_count_by.nd rfl (Or.inl rfl)) (pgs_cons (pg_name (i := 4) sc_count_by.nd rfl (Or.inl rfl)) (pgs_cons (pg_name (i := 5) sc_count_by.nd rfl (Or.inl rfl)) (pgs_cons (pg_name (i := 6) sc_count_by.nd rfl (Or.inl rfl)) pgs_nil))))))
      (pss_cons (ps_while PassesOwn.never (PW.pt (pw_and (pt_val (pv 6)) (pw_and1 (pt_cmpR op_le (pv 5) (pv 2) (nomark _))))) (pss_cons (ps_expr (pe_meth0 (pv 3) cl_Search mt_Search_spread G_Search_spread (hr.mono (by decide)) b_Search_spread .nil pass0))
      (pss_cons (ps_set (i := 7) sc_count_by.nd rfl (Or.inl rfl) (pe_ifExp (pt_cmpR op_isN (pe_fld2 cl_Search no_Search_clash (pv 3)) pe_non (nomark _)) (pe_call G_first_open (hr.mono (by decide)) (by rfl) mg_first_open kp_first_open b_first_open .nil pass0 (pa_cons (pv 3) pa_nil)) pe_non))
      (pss_one (ps_if (pt_cmpR op_notN (pv 7) pe_non (nomark _)) (pss_cons (ps_expr (pe_meth (pv 3) cl_Search mt_Search_decide G_Search_decide (hr.mono (by decide)) b_Search_decide .nil pass0 (pa_cons (pe_op op_sub pe_int (pv 7)) pa_nil)))
      (pss_one (ps_expr (pe_bm PySem.F.plainAttrs_list PySem.F.slot_list_append PySem.F.type_list_append mt_append (pv 4) (pa_cons pe_bl pa_nil))))) (pss_cons (ps_set (i := 5) sc_count_by.nd rfl (Or.inl rfl) (pe_op op_add (pv 5) (pe_ifExp (pt_cmpR op_isN (pe_fld2 cl_Search no_Search_clash (pv 3)) pe_non (nomark _)) (pe_call G_doubled (hr.mono (by decide)) (by rfl) mg_doubled kp_doubled b_doubled .nil pass0 (pa_cons (pe_op op_sub (pv 0) (pe_callB call_lenD (by rfl) mg_len bt_len (pa_cons (pe_fld2 cl_Search no_Search_sure (pv 3)) pa_nil))) (pa_cons (pv 2) pa_nil))) pe_int)))
      (pss_one (ps_set (i := 6) sc_count_by.nd rfl (Or.inl rfl) (pe_call G_turn (hr.mono (by decide)) (by rfl) mg_turn kp_turn b_turn .nil pass0 (pa_cons (pv 3) (pa_cons (pv 4) pa_nil)))))))))))
      (pss_one (ps_ret (pv 5))))), ?_⟩
  refine ⟨_, rfl, _, rfl, fun x dx hx hdx hn => init_ask S0 hx hdx hn fun H1 A1 s1 G1 O1 => ⟨rfl, Nat.zero_le _, fun ta hta => ⟨by show 4 ≤ sizeLine; decide, fun t ht => ?_⟩⟩⟩
  have hta0 : H ta = none := G1.same.free hta
  have sH : ∀ fl, Same H (upd H ta (.lst fl)) := fun fl => Same.new hta0
  have G2 : SAt1 K (upd H ta (.lst (flags []))) (upd H1 ta (.lst (flags []))) x A1 s1 := G1.frame (.inl hta) (G1.cls.mono (Same.new hta))
  have G3 := G2.grow (Same.new (o := .tup [.ref x, .ref ta, .int 0, .bl true]) ht)
  refine ⟨t, _, rfl, SqT.of upd_same, rfl, _, _, rfl, _, _, rfl, _, _, rfl, _, _, rfl, rfl, ?_⟩
  refine ⟨fun m σ H2 => ∃ A2 s2 st found on x7 fl, σ = [some (.int many), some (.ref v), some (.int (most : Int)), some (.ref x), some (.ref ta), some (.int (found : Nat)), some (.bl on), x7] ∧ SAt1 K (upd H ta (.lst fl)) H2 x A2 s2 ∧ ((on = true ∧ fl = flags st ∧ CI many as st found s2 ∧ m = wAll many.toNat st + 1) ∨ (on = false ∧ found = cnt many (as.map (·.2)) ∧ m = 0)),
    ⟨_, A1, s1, [], 0, true, none, flags [], rfl, G3, .inl ⟨rfl, rfl, ⟨O1.iv, O1.pn, .nil O1.mks, O1.cl, O1.many, ?_⟩, rfl⟩⟩, ?_⟩
  · show 0 + 0 + cw many.toNat (as.map (·.2)) [] = _
    rw [cw_nil]; omega
  rintro m σ H2 ⟨A2, s2, st, found, on, x7, fl, rfl, G, hcase⟩
  rcases hcase with ⟨rfl, rfl, C, rfl⟩ | ⟨rfl, hf, rfl⟩
  · have hsum := C.sum
    refine ⟨_, rfl, _, rfl, iteT ⟨_, rfl, _, rfl, _, _, rfl, rfl, _, rfl, ?_⟩⟩
    rw [decide_eq_true (by omega)]
    refine iteT ⟨_, fun _ _ h => h, ?_⟩
    refine ⟨_, rfl, x, _, _, rfl, G.ins, rfl, x, _, A2, s2, rfl, G, C.iv, C.pn, by rw [C.cl]; omega, fun H3 s3 G3 X3 => ?_⟩
    have I3 := X3.iv
    have D3 := C.dk.ext C.iv X3.ext
    have cl3 : s3.cl = as := X3.ext.cl.trans C.cl
    have m3 : s3.many = many := X3.ext.many.trans C.mny
    have hml := mks_len I3
    have htl := I3.len
    rw [m3] at htl
    have hdl := D3.len
    have hstl : st.length ≤ many.toNat := by omega
    -- a leaf: what it counts, then the turn
    have leaf : ∀ (add : Nat) (H5 : Hp), SAt1 K (upd H ta (.lst (flags st))) H5 x A2 s3 → add = cw many.toNat (as.map (·.2)) (st.map (·.1)) →
        sp_turn K [.ref x, .ref ta] H5 (fun y H6 => ∃ m', m' < wAll many.toNat st + 1 ∧ ∃ A2 s2 st' found' on x7 fl, [some (V.int many), some (.ref v), some (.int (most : Int)), some (.ref x), some (.ref ta), some (.int ((found : Int) + (add : Int))), some y, some .non] = [some (.int many), some (.ref v), some (.int (most : Int)), some (.ref x), some (.ref ta), some (.int (found' : Nat)), some (.bl on), x7] ∧ SAt1 K (upd H ta (.lst fl)) H6 x A2 s2 ∧ ((on = true ∧ fl = flags st' ∧ CI many as st' found' s2 ∧ m' = wAll many.toNat st' + 1) ∨ (on = false ∧ found' = cnt many (as.map (·.2)) ∧ m' = 0))) E0 := by
      intro add H5 G5 hadd
      refine ⟨x, ta, H, A2, s3, st, rfl, G5, I3, D3, fun ht H6 A6 s6 fl6 G6 => ?_, fun st' ht H6 A6 s6 G6 I6 P6 D6 c6 m6 => ?_⟩
      · have h0 := turn_none (n := many.toNat) (cs := as.map (·.2)) ht
        exact ⟨0, Nat.succ_pos _, A6, s6, st, found + add, false, _, fl6, by rw [Int.natCast_add], G6, .inr ⟨rfl, by omega, rfl⟩⟩
      · have h0 := turn_some (n := many.toNat) (cs := as.map (·.2)) ht
        have hw := wt_leaf ht hstl
        exact ⟨wAll many.toNat st' + 1, by omega, A6, s6, st', found + add, true, _, _, by rw [Int.natCast_add], G6, .inl ⟨rfl, rfl, ⟨I6, P6, D6, c6.trans cl3, m6.trans m3, by omega⟩, rfl⟩⟩
    refine ⟨_, rfl, _, _, _, _, rfl, G3.ins, rfl, rfl, _, rfl, ?_⟩
    cases hk : s3.ks with
    | some c =>
      refine iteF ?_
      refine ⟨_, rfl, rfl, _, rfl, iteF ?_⟩
      refine ⟨_, rfl, _, rfl, _, _, _, _, rfl, G3.ins, rfl, rfl, _, rfl, ?_⟩
      rw [hk]
      refine iteF ⟨_, _, rfl, rfl, ?_⟩
      have h0 := cw_clash I3 D3 hk many.toNat
      rw [cl3] at h0
      exact ⟨_, rfl, _, rfl, leaf 0 H3 G3 h0.symm⟩
    | none =>
      refine iteT ?_
      have hq := quiet_of X3.pn hk (X3.at_ hk)
      refine ⟨_, rfl, x, _, A2, s3, rfl, G3, I3, hq, by rw [cl3]; omega, fun hsat H4 s4 => ?_, fun n hn H4 s4 => ?_⟩
      · have G4 := G3.grow s4
        refine ⟨_, rfl, rfl, _, rfl, iteF ?_⟩
        refine ⟨_, rfl, _, rfl, _, _, _, _, rfl, G4.ins, rfl, rfl, _, rfl, ?_⟩
        rw [hk]
        refine iteT ?_
        have h0 := cw_open I3 D3 hsat
        rw [cl3, m3] at h0
        have hd : dbl (many.toNat - s3.tr.length) most = 2 ^ (many.toNat - s3.tr.length) := by
          unfold dbl
          omega
        refine ⟨_, rfl, _, rfl, _, _, _, _, rfl, G4.ins, rfl, A2.u, _, rfl, G4.hu, _, _, rfl, rfl, _, rfl, many.toNat - s3.tr.length, most, ?_, by omega, hmost, fun H5 s5 => ?_⟩
        · rw [List.length_map]
          have : many - (s3.tr.length : Int) = ((many.toNat - s3.tr.length : Nat) : Int) := by omega
          show [V.int (many - (s3.tr.length : Int)), V.int most] = _
          rw [this]
        · rw [hd, ← h0]
          have G5 := G4.grow s5
          exact ⟨_, _, rfl, rfl, _, rfl, _, rfl, leaf _ H5 G5 rfl⟩
      · have G4 := G3.grow s4
        obtain ⟨o1, o2, o3, o4⟩ := hn
        have hin : InR s3.many n := by unfold InR; omega
        have o3' : -(-n) ∉ s3.tr := by rw [Int.neg_neg]; exact o3
        refine ⟨_, rfl, rfl, _, rfl, iteT ?_⟩
        refine ⟨_, rfl, x, _, _, rfl, G4.ins, rfl, _, rfl, _, _, rfl, rfl, x, _, A2, s3, -n, by rw [← Int.zero_sub]; rfl, G4, I3, hin.neg, o4, o3', fun H5 G5 => ?_⟩
        have hta5 := G5.same _ _ (upd_same (H := H) (a := ta) (o := .lst (flags st)))
        refine ⟨_, rfl, .inl ⟨rfl, _, SqL.of hta5⟩, ta, _, _, rfl, rfl, hta5, by rw [flags_len]; exact sz_lt (by omega), ?_⟩
        rw [← flags_cons (-n)]
        have G6 := G5.frame (x := ta) (o := .lst (flags ((-n, false) :: st))) (.inr ⟨_, upd_same⟩) (G5.cls.upd hta5 (by intro xs z; cases z))
        rw [upd_upd] at G6
        have hlt : st.length < many.toNat := by
          rcases Nat.lt_or_ge st.length many.toNat with h | h
          · exact h
          · exfalso
            rcases I3.full (n := n) (by omega) o1 o2 with q | q
            · exact o3 q
            · exact o4 q
        have hw := wt_decide (l := -n) hlt
        have hs := cw_split (n := many.toNat) (cs := as.map (·.2)) (D := st.map (·.1)) (l := -n) (by omega)
        have hna := hin.neg
        refine ⟨wAll many.toNat ((-n, false) :: st) + 1, by omega, A2, decideF s3 (-n), (-n, false) :: st, found, true, _, _, rfl, G6, .inl ⟨rfl, rfl, ⟨decide_iv I3 hna o4 o3' hq (X3.at_ hk), snoc_pn (s := s3) (l := -n) X3.pn I3.at_ _ rfl rfl rfl rfl, D3.decide I3 (-n) false, cl3, m3, ?_⟩, rfl⟩⟩
        show found + (left many.toNat (as.map (·.2)) st + cw many.toNat (as.map (·.2)) (-(-n) :: st.map (·.1))) + cw many.toNat (as.map (·.2)) (-n :: st.map (·.1)) = _
        omega
  · refine ⟨_, rfl, _, rfl, iteF (iteF ?_)⟩
    refine ⟨_, rfl, ?_⟩
    rw [hf]
    exact k H2 ((sH fl).trans G.same)
end
end Nt
set_option maxRecDepth 100000
set_option maxHeartbeats 3200000
/-! NtG0: set(xs) of ints, xs a list or a tuple; sorted of it. -/
namespace Nt
open PySem PySem.Spec PyProof.Rows L2
/-- the empty set object that set(..) begins with -/
abbrev set0 (w : World) : Obj := { cls := .type "set", dict := none, data := .set #[] 0 (.fresh 0 0 (!w.params.followText "set-order")) }
section
variable {P : Program} {w : World} {A : Around} {E : Value → Shared → Prop} {s : Shared}
set_option maxRecDepth 100000 in
theorem set_lst {q : Addr} {zs : Array Value} (ks : List Int) {Q : Value → Shared → Prop} (quiet : A.handled = none) (at_ : s.heap.IsList q zs) (are : IntsAre zs.toList ks) (few : ks.length + 1 < scanBound)
    (ends : ∀ (g : Heap) (tk c : Nat), SetR w g s.heap.objs.size (fun j => decide (j ∈ ks)) c → c ≤ ks.length → (∀ b o, s.heap.get? b = some o → g.get? b = some o) → Q (.ref s.heap.objs.size) { s with heap := g, toks := tk }) :
    wpAny (model P w) A (call (.type "set") [.ref q]) Q E s := by
  have size : zs.size = ks.length := by rw [← Array.length_toList]; exact IntsAre.length are
  obtain ⟨k0, k1, mro⟩ := F.called_set.mro
  have made := F.called_set.made
  have sub := F.called_set.sub
  refine wpAny_call (codeAny_of_tree ?_)
  show wpAny _ _ (callAny (.type "set") _) _ _ _
  refine wpAny_pure ⟨Code.quiet_builtin _ (by decide +kernel), codeAny_builtin F.entry_type_call ?_⟩
  rw [Around.under_plain (weight_type_call_type "set" [.ref q] []) rfl]
  have f1 := F.called_set.notType
  have f2 := F.called_set.canCreate
  have f3 := F.typeCall_set_1 (.ref q)
  repeat (any_goals (first | assumption | wp_step))
  refine codeAny_mono (code_set_led1 (.ref q) (E := E) (Q₁ := fun v t => v = .ref s.heap.objs.size ∧ t = { s with heap := s.heap.push (set0 w) }) ⟨rfl, rfl⟩) fun r t hr => ?_
  match r, hr with
  | .error e, hr => exact hr
  | .ok (.ret v), hr =>
    obtain ⟨rfl, rfl⟩ := hr
    have new : (s.heap.push (set0 w)).get? s.heap.objs.size = some (set0 w) := Heap.get?_push_size _ rfl
    have isSet : Shared.TypeIs { s with heap := s.heap.push (set0 w) } (.ref s.heap.objs.size) "set" := ⟨_, new, rfl⟩
    have i1 := F.called_set.init.lookup
    have i2 := F.called_set.init.bind (.ref s.heap.objs.size)
    repeat (any_goals (first | assumption | wp_step))
    refine codeAny_mono (codeAny_call_builtin (R := wants (fun v t => v = .none ∧ ∃ g tk c, t = { s with heap := g, toks := tk } ∧ SetR w g s.heap.objs.size (fun j => decide (j ∈ ks)) c ∧ c ≤ ks.length ∧ (∀ b o, s.heap.get? b = some o → g.get? b = some o)) E)
      F.called_set.init.plain F.entry_set_init (check_set_init_1 isSet ?_)) fun r2 t2 hr2 => ?_
    · obtain ⟨⟨oc, od, odt, osl⟩, hq, hc, nl, hd⟩ := at_
      simp only at hc hd
      subst hc hd
      have hq1 : (s.heap.push (set0 w)).get? q = some { cls := .type "list", dict := od, data := .seq zs nl, slots := osl } := Heap.get?_push_of_some _ hq
      have at1 : (s.heap.push (set0 w)).IsList q zs := ⟨_, hq1, rfl, nl, rfl⟩
      have n1 := F.sub_list_set
      have n2 := F.sub_list_frozenset
      have n3 : (Value.type "list" == Value.type "dict") = false := by decide
      unfold Builtin.«set.__init__» noKeywords Builtin.Frozenset.updateFrom
      generalize hit : pyIter = it
      wp_walk
      subst hit
      refine wpAny_pyIter_list at1 ?_
      refine wpAny_bind (wpAny_runValue ?_)
      have lt : q < s.heap.objs.size := Heap.lt_size hq
      have z1 : (s.heap.push (set0 w)).objs.size = s.heap.objs.size + 1 := Heap.size_push ..
      have quiet3 : A.in1.in1.in1.handled = none := by simp [quiet]
      refine set_update_ints ((Walks.list quiet3 _ q (by rw [z1]; exact Nat.ne_of_lt (Nat.lt_succ_of_lt lt)) zs).toS) s.heap.objs.size (by rw [z1]; simp only [List.mem_cons, List.not_mem_nil, or_false, not_or]; exact ⟨Nat.ne_of_lt (Nat.lt_succ_self _), Nat.ne_of_gt lt⟩) ks size few (fun i v hv => ?_) (zs.size - 0) 0 _ (by omega) (Nat.zero_le _)
        ⟨⟨_, Heap.get?_push_size _ rfl, rfl, rfl⟩, at1.push _⟩ ⟨0, Nat.le_refl 0, setR_new_at (Heap.get?_push_of_some _ new)⟩ fun t c mv hc2 hS => ?_
      · have hi : i < ks.length := by rw [← size]; exact (Array.getElem?_eq_some_iff.mp hv).1
        obtain ⟨tk, e⟩ := IntsAre.int_at are i v (by rw [Array.getElem?_toList]; exact hv)
        exact ⟨ks[i], tk, List.getElem?_eq_getElem hi, by rw [e, List.getD_eq_getElem?_getD, List.getElem?_eq_getElem hi]; rfl⟩
      · obtain ⟨g, gs, dr, tk, os⟩ := t
        obtain rfl : gs = s.gens := mv.gens
        obtain rfl : dr = s.drawn := mv.drawn
        obtain rfl : os = s.os := mv.os
        refine wpAny_pure ?_
        show wpAny _ _ (ret Value.none) _ _ _
        refine wpAny_pure ⟨rfl, g, tk, c, rfl, hS, by omega, fun b o e => ?_⟩
        have hb := Heap.lt_size e
        refine mv.heap b o ?_ (Heap.get?_push_of_some _ (Heap.get?_push_of_some _ e))
        rw [z1]
        simp only [List.mem_cons, List.not_mem_nil, or_false, not_or]
        exact ⟨Nat.ne_of_lt hb, Nat.ne_of_lt (Nat.lt_succ_of_lt hb)⟩
    · match r2, hr2 with
      | .error e, hr2 => exact hr2
      | .ok (.ret v), hr2 =>
        obtain ⟨rfl, g, tk, c, rfl, a1, a2, a3⟩ := hr2
        repeat (any_goals (first | assumption | wp_step))
        exact ends _ _ _ a1 a2 a3
      | .ok .next, hr2 => exact hr2.elim
      | .ok .brk, hr2 => exact hr2.elim
      | .ok .cont, hr2 => exact hr2.elim
  | .ok .next, hr => exact hr.elim
  | .ok .brk, hr => exact hr.elim
  | .ok .cont, hr => exact hr.elim
end
end Nt
set_option maxRecDepth 100000
set_option maxHeartbeats 1000000
/-! NtG1: sorted(set(xs)); list(d.values()). -/
namespace Nt
open PySem PySem.Spec PyProof.Rows L2
/-- each once -/
def once : List Int → List Int
  | [] => []
  | x :: r => if x ∈ r then once r else x :: once r
theorem mem_once {k : Int} : ∀ {ns : List Int}, k ∈ once ns ↔ k ∈ ns
  | [] => Iff.rfl
  | x :: r => by
    unfold once
    split
    · rename_i h
      rw [mem_once]
      exact ⟨fun q => List.mem_cons_of_mem _ q, fun q => (List.mem_cons.mp q).elim (fun e => e ▸ h) id⟩
    · rw [List.mem_cons, List.mem_cons, mem_once]
theorem once_nodup : ∀ ns : List Int, (once ns).Nodup
  | [] => List.nodup_nil
  | x :: r => by
    unfold once
    split
    · exact once_nodup r
    · rename_i h
      exact List.nodup_cons.mpr ⟨fun q => h (mem_once.mp q), once_nodup r⟩
theorem once_len : ∀ ns : List Int, (once ns).length ≤ ns.length
  | [] => Nat.le_refl _
  | x :: r => by
    unfold once
    split
    · exact Nat.le_succ_of_le (once_len r)
    · exact Nat.succ_le_succ (once_len r)
/-- sorted(set(ns)) -/
def sset (ns : List Int) : List Int := srt (once ns)
theorem mem_sset {k : Int} {ns : List Int} : k ∈ sset ns ↔ k ∈ ns := ((srt_perm _).mem_iff).trans mem_once
theorem sset_pw (ns : List Int) : (sset ns).Pairwise (· < ·) := by
  have hn : (sset ns).Nodup := (srt_perm _).nodup_iff.mpr (once_nodup ns)
  exact ((srt_pw (once ns)).and hn).imp fun h => by omega
theorem pw_unique {ms ns : List Int} (h1 : ms.Pairwise (· < ·)) (h2 : ns.Pairwise (· < ·)) (h : ∀ k, k ∈ ms ↔ k ∈ ns) : ms = ns := by
  have p : ms.Perm ns := (List.perm_ext_iff_of_nodup (h1.imp fun h => by omega) (h2.imp fun h => by omega)).mpr h
  exact p.eq_of_pairwise (fun x y _ _ a b => Int.le_antisymm a b) (h1.imp fun h => Int.le_of_lt h) (h2.imp fun h => Int.le_of_lt h)
theorem sset_one {ms ns : List Int} (h1 : ms.Pairwise (· < ·)) (h : ∀ k, k ∈ ms ↔ k ∈ ns) : ms = sset ns := pw_unique h1 (sset_pw ns) fun k => (h k).trans mem_sset.symm
theorem sset_len (ns : List Int) : (sset ns).length ≤ ns.length := by
  unfold sset
  rw [(srt_perm _).length_eq]
  exact once_len ns
section
variable {X : Cx}
def rSetI2 (w : World) : List V → Hp → VK → Prop := fun xs H Q => ∃ (l : Addr) (ns : List Int), xs = [.ref l] ∧ (H l = some (.lst (ns.map V.int)) ∨ H l = some (.tup (ns.map V.int))) ∧ ns.length ≤ 1000 ∧ ∀ a n, H a = none → n ≤ ns.length → Q (.ref a) (upd H a (SetO w a (fun j => decide (j ∈ ns)) n))
theorem cr_setI2 (hc : X.calm = true) : CallR X (.type "set") (rSetI2 X.w) := by
  intro pins s σ H xs us Q I r h
  obtain ⟨l, ns, rfl, hl, hn, q⟩ := h
  rw [Vals.ref1 r]
  have hb : ns.length + 1 < scanBound := Nat.lt_of_le_of_lt (Nat.succ_le_succ hn) (by decide)
  have fr : H s.heap.objs.size = none := I.hok.fresh (Nat.le_refl _)
  rcases hl with hl | hl
  · obtain ⟨its, rv, pl, hz⟩ := I.list (SqL.of hl)
    exact set_lst ns (I.ok.hd hc) pl.isList (by simpa using ints_of_vals rv) hb fun g tk c R hcn k =>
      ⟨.ref s.heap.objs.size, upd H s.heap.objs.size (SetO X.w s.heap.objs.size (fun j => decide (j ∈ ns)) c), I.laid (t' := tk) k (Nat.le_refl _) (setO_new R), rfl, q _ _ fr hcn⟩
  · obtain ⟨its, rv, pl, hz⟩ := I.tuple (SqT.of hl)
    exact call_set_tupI ns (I.ok.hd hc) pl (by simpa using ints_of_vals rv) hb fun g tk c R hcn k =>
      ⟨.ref s.heap.objs.size, upd H s.heap.objs.size (SetO X.w s.heap.objs.size (fun j => decide (j ∈ ns)) c), I.laid (t' := tk) k (Nat.le_refl _) (setO_new R), rfl, q _ _ fr hcn⟩
/-- what is asked may be asked for less -/
def tM (te : TE) : TE := fun σ H Q => ∃ Q0 : VK, te σ H Q0 ∧ ∀ x H1, Q0 x H1 → Q x H1
theorem pe_mono {e : Expr} {te : TE} (he : PE X e te) : PE X e (tM te) := ⟨fun pins s σ H Q I ⟨Q0, h, k⟩ => thn (he.run pins s σ H _ I h) fun v s1 ⟨x, H1, I1, r, q⟩ => ⟨x, H1, I1, r, k _ _ q⟩⟩
/-- sorted(set(e)) -/
def tSS (te : TE) : TE := fun σ H Q => te σ H fun x H1 => ∃ (l : Addr) (ns : List Int), x = .ref l ∧ (H1 l = some (.lst (ns.map V.int)) ∨ H1 l = some (.tup (ns.map V.int))) ∧ ns.length < 64 ∧ ∀ p H', Same H1 H' → H1 p = none → H' p = some (.lst ((sset ns).map V.int)) → Q (.ref p) H'
theorem pe_sortedSet (hc : X.calm = true) {e : Expr} {te : TE} {p1 p2 pos pos2 : Pos} (hg : Gl X "sorted") (hm : X.mg "sorted" = none) (hg2 : Gl X "set") (hm2 : X.mg "set" = none) (he : PE X e te)
    (h1 : starEach [e] X.env = (false, eval e X.env) :: starEach [] X.env := by rfl) (h2 : (backTo pos2 (starEach [] X.env)).any (·.1) = false := by rfl)
    (h3 : starEach [(.Call (.Name "set" p2) [e] [] pos2 : Expr)] X.env = (false, eval (.Call (.Name "set" p2) [e] [] pos2) X.env) :: starEach [] X.env := by rfl) (h4 : (backTo pos (starEach [] X.env)).any (·.1) = false := by rfl) :
    PE X (.Call (.Name "sorted" p1) [.Call (.Name "set" p2) [e] [] pos2] [] pos) (tSS te) := by
  refine PE.imp (pe_callB (cr_sortedSet hc) hg hm bt_sorted (pa_cons (pe_callTy (cr_setI2 hc) hg2 hm2 bt_set (pa_cons (pe_mono he) pa_nil h1) (by decide) (by decide) h1 h2) pa_nil h3) (by decide) (by decide) h3 h4) ?_
  intro σ H Q h
  refine ⟨_, h, ?_⟩
  rintro x H1 ⟨l, ns, rfl, hl, hn, q⟩
  refine ⟨l, ns, rfl, hl, by omega, fun a n ha hna => ?_⟩
  refine ⟨a, _, n, rfl, upd_same, by omega, fun ms p h5 h6 _ hp => ?_⟩
  have e1 : ms = sset ns := sset_one h5 fun k => (h6 k).trans decide_eq_true_iff
  have g1 := Same.new (o := SetO X.w a (fun j => decide (j ∈ ns)) n) ha
  refine q p _ (g1.trans (Same.new hp)) (g1.free hp) ?_
  rw [e1]; exact upd_same
/-- list(o.values()) -/
def tLVals (td : TE) : TE := fun σ H Q => td σ H fun x H1 => ∃ (a : Addr) (kvs : List (Key × V)), x = .ref a ∧ H1 a = some (.dK kvs) ∧ kvs.length ≤ 100000 ∧ ∀ p, H1 p = none → Q (.ref p) (upd H1 p (.lst (kvs.map (·.2))))
theorem kv_snd {kvs : List (Key × V)} {vs : List (Key × Value)} (r : KV kvs vs) : Vals (kvs.map (·.2)) (vs.map (·.2)) := by
  unfold KV at r
  induction r with
  | nil => exact .nil
  | cons h t ih => exact .cons h.2 ih
theorem pe_listVals (hc : X.calm = true) {o : Expr} {td : TE} {p pos apos mpos : Pos} (hg : Gl X "list") (hm : X.mg "list" = none) (hd : PE X o td) (hbase : attributeBase o "values" X.env (eval o X.env) = eval o X.env := by rfl) (hline : (apos.endLine == mpos.line) = true := by rfl)
    (hse : starEach [Expr.Call (.Attribute o "values" apos) [] [] mpos] X.env = (false, eval (Expr.Call (.Attribute o "values" apos) [] [] mpos) X.env) :: starEach [] X.env := by rfl) (hpl : (backTo pos (starEach [] X.env)).any (·.1) = false := by rfl) :
    PE X (.Call (.Name "list" p) [.Call (.Attribute o "values" apos) [] [] mpos] [] pos) (tLVals td) := by
  refine ⟨fun pins s σ H Q I h => ?_⟩
  refine wpAny_Call_Name_kw (ld_blt I hg hm bt_list ?_ (by decide) (by decide))
  refine PyProof.Rows.callWith_type1 (args_cons ?_ hse) hse hpl
  refine wpAny_Call_method0_late hbase hline (thn (hd.run pins s σ H _ I h) fun v s1 ⟨x, H1, I1, r1, a, kvs, ex, ha, hl, q⟩ => ?_)
  subst ex
  obtain rfl : v = Value.ref a := r1
  obtain ⟨_, hsys, vs, rel, dof⟩ := dk_of I1.hok ha
  obtain ⟨ep, dat⟩ := dof.dictAt
  obtain ⟨ob, es, ho, ex, hrest⟩ := id dat
  refine ⟨"dict", "dict.values", F.plainAttrs_dict, F.slot_dict_values, F.type_dict_values, ⟨ob, ho, ex.1⟩, fun b e => ?_, Calls.callWith_builtin rfl (PySem.evalArgs_none ?_)⟩
  · cases e
    exact ⟨ob, ho, ex.2.1⟩
  refine call_meetsIn F.slot_dict_values ⟨ob, ho, ex.1⟩ F.entry_dict_values (F.args_dict_values_1 _) (meets_dict_values (mixKind X.prog X.w) a hsys) ⟨⟨vs, dof⟩, ?_⟩
  -- the new list
  have k1 : ∀ b u, s1.heap.get? b = some u → (s1.heap.push { cls := .type "dict_values", data := .fields #[.ref a] }).get? b = some u := fun b u e => Heap.get?_push_of_some _ e
  have I2 : L2.Inv X pins σ H1 { s1 with heap := s1.heap.push { cls := .type "dict_values", data := .fields #[.ref a] } } := I1.kept (t' := s1.toks) k1
  have hlen : vs.length = kvs.length := (KV.length rel).symm
  refine args_nil ?_
  refine PySem.W.kdl_call (s := { s1 with heap := s1.heap.push { cls := .type "dict_values", data := .fields #[.ref a] } }) (PySem.W.kdl_values (knd := mixKind X.prog X.w) (kvs := vs) (ep := ep) (d := a) (r := s1.heap.objs.size)) (I1.ok.hd hc) ⟨⟨_, Heap.get?_push_size _ rfl, rfl, rfl⟩, dat.keep k1⟩ (by rw [hlen, sizeLine_eq]; omega) fun g tk acc c hk hS hacc => ?_
  have hv : acc.toList = vs.map (·.2) := PySem.W.kdl_vals_eq acc.toList (by rw [Array.length_toList, hacc.1]) fun j v e => hacc.2 j v (by rw [← Array.getElem?_toList]; exact e)
  refine ⟨.ref _, upd H1 _ (.lst (kvs.map (·.2))), I2.laid (t' := tk) hk (Nat.le_refl _) (show ObjOk X.prog X.w _ _ _ (.lst (kvs.map (·.2))) from ⟨by rw [List.length_map, sizeLine_eq]; omega, acc.toList, c, by rw [hv]; exact kv_snd rel, by rw [Array.toArray_toList]; exact hS⟩), rfl, q _ (I2.hok.fresh (Nat.le_refl _))⟩
end
end Nt
set_option maxRecDepth 100000
set_option maxHeartbeats 1000000
/-! NtH: groups of clauses, by plain lists: labels, parts, how counts multiply. -/
namespace Nt
open PySem PySem.Spec PyProof.Rows L2
/-- the dict of heads tells the labels ρ: each number leads to its label by ever lesser numbers -/
structure Lb (kvs : List (Key × V)) (ks : List Int) (ρ : Int → Int) : Prop where
  keys : kvs.map (·.1) = ks.map Sum.inl
  nd : ks.Nodup
  get : ∀ x ∈ ks, ∃ y, valV kvs (.inl x) = some (.int y) ∧ ρ y = ρ x ∧ (y = x → ρ x = x) ∧ 1 ≤ y ∧ y ≤ x
  out : ∀ x, x ∉ ks → ρ x = x
  into : ∀ x ∈ ks, ρ x ∈ ks
  le : ∀ x ∈ ks, 1 ≤ ρ x ∧ ρ x ≤ x
  idem : ∀ x, ρ (ρ x) = ρ x
theorem Lb.nil : Lb [] [] id := ⟨rfl, List.nodup_nil, fun _ h => (by cases h), fun _ _ => rfl, fun _ h => (by cases h), fun _ h => (by cases h), fun _ => rfl⟩
theorem Lb.none {kvs : List (Key × V)} {ks : List Int} {ρ : Int → Int} (h : Lb kvs ks ρ) {x : Int} (hx : x ∉ ks) : valV kvs (.inl x) = none := valV_none fun z => by
  rw [h.keys] at z
  obtain ⟨y, hy, e⟩ := List.mem_map.mp z
  cases e
  exact hx hy
theorem Lb.some {kvs : List (Key × V)} {ks : List Int} {ρ : Int → Int} (h : Lb kvs ks ρ) (x : Int) : (valV kvs (.inl x)).isSome = decide (x ∈ ks) := by
  by_cases hx : x ∈ ks
  · obtain ⟨y, e, _⟩ := h.get x hx
    rw [e, decide_eq_true hx]; rfl
  · rw [h.none hx, decide_eq_false hx]; rfl
/-- a key that is there keeps the keys -/
theorem putK_keys {kvs : List (Key × V)} {k : Key} {v : V} (h : (valV kvs k).isSome = true) : (putK kvs k v).map (·.1) = kvs.map (·.1) := by
  unfold putK
  rw [if_pos (by rw [valV_any]; exact h), List.map_map]
  refine List.map_congr_left fun x _ => ?_
  show (if x.1 = k then (x.1, v) else x).1 = x.1
  split <;> rfl
/-- a shorter way to the label -/
theorem Lb.short {kvs : List (Key × V)} {ks : List Int} {ρ : Int → Int} (h : Lb kvs ks ρ) {x : Int} (hx : x ∈ ks) : Lb (putK kvs (.inl x) (.int (ρ x))) ks ρ := by
  refine ⟨?_, h.nd, fun z hz => ?_, h.out, h.into, h.le, h.idem⟩
  · rw [putK_keys (by rw [h.some, decide_eq_true hx])]; exact h.keys
  · rw [valV_put]
    by_cases e : z = x
    · subst e
      rw [if_pos rfl]
      have := h.le z hz
      exact ⟨ρ z, rfl, h.idem z, id, this.1, this.2⟩
    · rw [if_neg fun q => e (Sum.inl.inj q)]
      exact h.get z hz
/-- some labels become one: its least -/
structure Un (kvs kvs2 : List (Key × V)) (ks ks2 : List Int) (don : List Int) (m : Int) : Prop where
  keys : kvs2.map (·.1) = ks2.map Sum.inl
  nd : ks2.Nodup
  mem : ∀ x, x ∈ ks2 ↔ x ∈ ks ∨ x ∈ don
  get : ∀ x, valV kvs2 (.inl x) = if x ∈ don then some (.int m) else valV kvs (.inl x)
theorem Un.start {kvs : List (Key × V)} {ks : List Int} {ρ : Int → Int} (h : Lb kvs ks ρ) (m : Int) : Un kvs kvs ks ks [] m := ⟨h.keys, h.nd, fun x => by simp, fun x => by simp⟩
theorem Un.step {kvs kvs2 : List (Key × V)} {ks ks2 don : List Int} {m : Int} (u : Un kvs kvs2 ks ks2 don m) (x : Int) : ∃ ks3, Un kvs (putK kvs2 (.inl x) (.int m)) ks ks3 (don ++ [x]) m := by
  have get : ∀ z, valV (putK kvs2 (.inl x) (.int m)) (.inl z) = if z ∈ don ++ [x] then some (.int m) else valV kvs (.inl z) := fun z => by
    rw [valV_put, u.get]
    by_cases e : z = x
    · rw [if_pos (by rw [e]), if_pos (by simp [e])]
    · rw [if_neg fun q => e (Sum.inl.inj q)]
      have : z ∈ don ++ [x] ↔ z ∈ don := by simp [e]
      simp only [this]
  by_cases hx : x ∈ ks2
  · refine ⟨ks2, ?_, u.nd, fun z => ?_, get⟩
    · have hs : (valV kvs2 (.inl x : Key)).isSome = true := by
        cases e : valV kvs2 (.inl x : Key) with
        | some v => rfl
        | none =>
          exfalso
          refine valV_not e ?_
          rw [u.keys]
          exact List.mem_map.mpr ⟨x, hx, rfl⟩
      rw [putK_keys hs]; exact u.keys
    · rw [u.mem z, List.mem_append, List.mem_singleton]
      constructor
      · rintro (h | h)
        · exact .inl h
        · exact .inr (.inl h)
      · rintro (h | h | h)
        · exact .inl h
        · exact .inr h
        · rw [h]; exact (u.mem x).mp hx
  · have hn : valV kvs2 (.inl x : Key) = none := valV_none fun z => by
      rw [u.keys] at z
      obtain ⟨y, hy, e⟩ := List.mem_map.mp z
      cases e
      exact hx hy
    refine ⟨ks2 ++ [x], ?_, ?_, fun z => ?_, get⟩
    · rw [putK_new _ hn, List.map_append, List.map_append, u.keys]; rfl
    · rw [List.nodup_append]
      exact ⟨u.nd, by simp, fun a ha b hb e => hx (by rw [← List.mem_singleton.mp hb, ← e]; exact ha)⟩
    · rw [List.mem_append, List.mem_append, u.mem z, or_assoc]
/-- ρ, its labels become m -/
def join (ρ : Int → Int) (its : List Int) (m : Int) : Int → Int := fun x => if ρ x ∈ its then m else ρ x
theorem Un.done {kvs kvs2 : List (Key × V)} {ks ks2 its : List Int} {m : Int} {ρ : Int → Int} (h : Lb kvs ks ρ) (u : Un kvs kvs2 ks ks2 its m) (hm : m ∈ its) (hle : ∀ x ∈ its, 1 ≤ m ∧ m ≤ x) (hr : ∀ x ∈ its, ρ x = x) : Lb kvs2 ks2 (join ρ its m) := by
  have jm : join ρ its m m = m := by unfold join; rw [if_pos (by rw [hr m hm]; exact hm)]
  refine ⟨u.keys, u.nd, fun x hx => ?_, fun x hx => ?_, fun x hx => ?_, fun x hx => ?_, fun x => ?_⟩
  · rw [u.get]
    by_cases e : x ∈ its
    · rw [if_pos e]
      have jx : join ρ its m x = m := by unfold join; rw [if_pos (by rw [hr x e]; exact e)]
      exact ⟨m, rfl, by rw [jm, jx], fun q => by rw [jx, q], (hle x e).1, (hle x e).2⟩
    · rw [if_neg e]
      have hk : x ∈ ks := ((u.mem x).mp hx).resolve_right e
      obtain ⟨y, h1, h2, h3, h4, h5⟩ := h.get x hk
      refine ⟨y, h1, by unfold join; rw [h2], fun q => ?_, h4, h5⟩
      have := h3 q
      unfold join
      rw [this, if_neg e]
  · have h1 : x ∉ ks := fun z => hx ((u.mem x).mpr (.inl z))
    have h2 : x ∉ its := fun z => hx ((u.mem x).mpr (.inr z))
    unfold join
    rw [h.out x h1, if_neg h2]
  · unfold join
    split
    · exact (u.mem m).mpr (.inr hm)
    · rename_i e
      rcases (u.mem x).mp hx with q | q
      · exact (u.mem _).mpr (.inl (h.into x q))
      · rw [hr x q] at e; exact absurd q e
  · unfold join
    split
    · rename_i e
      rcases (u.mem x).mp hx with q | q
      · have := hle _ e
        have := h.le x q
        omega
      · exact hle x q
    · rename_i e
      rcases (u.mem x).mp hx with q | q
      · exact h.le x q
      · rw [hr x q] at e; exact absurd q e
  · by_cases e : ρ x ∈ its
    · have : join ρ its m x = m := if_pos e
      rw [this, jm]
    · have q : join ρ its m x = ρ x := if_neg e
      rw [q]
      unfold join
      rw [h.idem, if_neg e]
theorem all_cg {α : Type} {p q : α → Bool} : ∀ {l : List α}, (∀ x ∈ l, p x = q x) → l.all p = l.all q
  | [], _ => rfl
  | x :: r, h => by rw [List.all_cons, List.all_cons, h x List.mem_cons_self, all_cg fun y hy => h y (List.mem_cons_of_mem _ hy)]
theorem any_cg {α : Type} {p q : α → Bool} : ∀ {l : List α}, (∀ x ∈ l, p x = q x) → l.any p = l.any q
  | [], _ => rfl
  | x :: r, h => by rw [List.any_cons, List.any_cons, h x List.mem_cons_self, any_cg fun y hy => h y (List.mem_cons_of_mem _ hy)]
/-! ### parts -/
abbrev Part := List Int × List (List Int)
structure PartsOk (many : Int) (cs : List (List Int)) (G : List Part) : Prop where
  nd : (G.flatMap (·.1)).Nodup
  inr : ∀ g ∈ G, ∀ x ∈ g.1, 1 ≤ x ∧ x ≤ many
  pw : ∀ g ∈ G, g.1.Pairwise (· < ·)
  sub : ∀ g ∈ G, ∀ c ∈ g.2, c ∈ cs ∧ ∀ l ∈ c, ab l ∈ g.1
  all : ∀ c ∈ cs, ∃ g ∈ G, c ∈ g.2
/-- the product of the parts' counts -/
def prodG : List Part → Nat
  | [] => 1
  | g :: r => sm g.1 a0 (hold g.2) * prodG r
theorem sm_parts : ∀ (G : List Part) (rest : List Int) (a : As), (G.flatMap (·.1)).Nodup → (∀ x ∈ rest, x ∉ G.flatMap (·.1)) → (∀ g ∈ G, ∀ c ∈ g.2, ∀ l ∈ c, ab l ∈ g.1) →
    sm (G.flatMap (·.1) ++ rest) a (fun a => G.all fun g => hold g.2 a) = prodG G * 2 ^ rest.length
  | [], rest, a, _, _, _ => by
    rw [List.flatMap_nil, List.nil_append, show prodG [] = 1 from rfl, Nat.one_mul]
    exact sm_one (fun _ => rfl) rest a
  | g :: G, rest, a, hn, hr, hc => by
    rw [List.flatMap_cons, List.nodup_append] at hn
    rw [List.flatMap_cons, List.append_assoc]
    have h1 : ∀ a b : As, (∀ x, x ∉ G.flatMap (·.1) ++ rest → a x = b x) → hold g.2 a = hold g.2 b := fun a b h => hold_dep fun c hc' l hl => h _ fun z => by
      have hx := hc g List.mem_cons_self c hc' l hl
      rcases List.mem_append.mp z with z | z
      · exact hn.2.2 _ hx _ z rfl
      · exact hr _ z (by rw [List.flatMap_cons]; exact List.mem_append_left _ hx)
    have h2 : ∀ a b : As, (∀ x, x ∉ g.1 → a x = b x) → (G.all fun g => hold g.2 a) = G.all fun g => hold g.2 b := fun a b h => by
      have : ∀ g' ∈ G, hold g'.2 a = hold g'.2 b := fun g' hg' => hold_dep fun c hc' l hl => h _ fun z => by
        have hx := hc g' (List.mem_cons_of_mem _ hg') c hc' l hl
        exact hn.2.2 _ z _ (List.mem_flatMap.mpr ⟨g', hg', hx⟩) rfl
      exact all_cg this
    have e := sm_mul (P := hold g.2) (Q := fun a => G.all fun g => hold g.2 a) (ys := G.flatMap (·.1) ++ rest) h1 (xs := g.1) (a := a) h2
    have e0 : (fun a => (g :: G).all fun g => hold g.2 a) = fun a => hold g.2 a && G.all fun g => hold g.2 a := rfl
    rw [e0, e, sm_parts G rest a hn.2.1 (fun x hx z => hr x hx (by rw [List.flatMap_cons]; exact List.mem_append_right _ z)) fun g' hg' => hc g' (List.mem_cons_of_mem _ hg')]
    have e2 : sm g.1 a (hold g.2) = sm g.1 a0 (hold g.2) := by
      -- what is not in the part does not matter
      have key : ∀ (ns : List Int) (a b : As), (∀ x, (∃ c ∈ g.2, ∃ l ∈ c, ab l = x) → x ∉ ns → a x = b x) → sm ns a (hold g.2) = sm ns b (hold g.2) := by
        intro ns
        induction ns with
        | nil =>
          intro a b h
          show (if hold g.2 a = true then 1 else 0) = (if hold g.2 b = true then 1 else 0)
          rw [hold_dep fun c hc' l hl => h _ ⟨c, hc', l, hl, rfl⟩ (by simp)]
        | cons n ns ih =>
          intro a b h
          have k : ∀ v x, (∃ c ∈ g.2, ∃ l ∈ c, ab l = x) → x ∉ ns → putA a n v x = putA b n v x := fun v x hx hn => by
            unfold putA
            by_cases e : x = n
            · rw [if_pos e, if_pos e]
            · rw [if_neg e, if_neg e]; exact h x hx (by simp [e, hn])
          show sm ns _ _ + sm ns _ _ = sm ns _ _ + sm ns _ _
          rw [ih _ _ (k true), ih _ _ (k false)]
      refine key g.1 a a0 fun x ⟨c, hc', l, hl, e⟩ hx => ?_
      exact absurd (e ▸ hc g List.mem_cons_self c hc' l hl) hx
    rw [e2, show prodG (g :: G) = sm g.1 a0 (hold g.2) * prodG G from rfl, Nat.mul_assoc]
theorem parts_len {many : Int} {cs : List (List Int)} {G : List Part} (lo : 0 ≤ many) (h : PartsOk many cs G) : (G.flatMap (·.1)).length ≤ many.toNat := by
  have := List.Nodup.length_le_of_subset h.nd (l₂ := nums many.toNat) fun x hx => by
    obtain ⟨g, hg, hx⟩ := List.mem_flatMap.mp hx
    have := h.inr g hg x hx
    exact mem_nums.mpr (by omega)
  rwa [nums_len] at this
theorem cnt_parts {many : Int} {cs : List (List Int)} {G : List Part} (lo : 0 ≤ many) (h : PartsOk many cs G) : cnt many cs = prodG G * 2 ^ (many.toNat - (G.flatMap (·.1)).length) := by
  have hsub : ∀ x ∈ G.flatMap (·.1), x ∈ nums many.toNat := fun x hx => by
    obtain ⟨g, hg, hx⟩ := List.mem_flatMap.mp hx
    have := h.inr g hg x hx
    exact mem_nums.mpr (by omega)
  have hp : (nums many.toNat).Perm (G.flatMap (·.1) ++ (nums many.toNat).filter fun x => decide (x ∉ G.flatMap (·.1))) := by
    refine (List.perm_ext_iff_of_nodup (nums_nodup _) ?_).mpr fun x => ?_
    · rw [List.nodup_append]
      refine ⟨h.nd, (nums_nodup _).filter _, fun a ha b hb e => ?_⟩
      rw [List.mem_filter] at hb
      exact of_decide_eq_true hb.2 (e ▸ ha)
    · rw [List.mem_append, List.mem_filter]
      constructor
      · intro hx
        by_cases e : x ∈ G.flatMap (·.1)
        · exact .inl e
        · exact .inr ⟨hx, decide_eq_true e⟩
      · rintro (hx | ⟨hx, _⟩)
        · exact hsub x hx
        · exact hx
  have hlen := hp.length_eq
  rw [nums_len, List.length_append] at hlen
  unfold cnt
  rw [sm_perm hp]
  have e : ∀ a, hold cs a = G.all fun g => hold g.2 a := fun a => by
    cases q : G.all fun g => hold g.2 a with
    | true =>
      have q := List.all_eq_true.mp q
      refine hold_iff.mpr fun c hc => ?_
      obtain ⟨g, hg, hcg⟩ := h.all c hc
      exact hold_iff.mp (q g hg) c hcg
    | false =>
      cases z : hold cs a with
      | false => rfl
      | true =>
        have : (G.all fun g => hold g.2 a) = true := List.all_eq_true.mpr fun g hg => hold_iff.mpr fun c hc => hold_iff.mp z c (h.sub g hg c hc).1
        rw [q] at this; cases this
  rw [sm_congr e, sm_parts G _ a0 h.nd (fun x hx => of_decide_eq_true (List.mem_filter.mp hx).2) fun g hg c hc => (h.sub g hg c hc).2]
  congr 2
  omega
/-! ### numbers called by their places -/
def renL (ns : List Int) (l : Int) : Int := if 0 < l then (ns.idxOf l : Int) + 1 else -((ns.idxOf (-l) : Int) + 1)
def ren (ns : List Int) (c : List Int) : List Int := c.map (renL ns)
theorem idx_lt {ns : List Int} (h : ns.Pairwise (· < ·)) {x y : Int} (hx : x ∈ ns) (hy : y ∈ ns) (hxy : x < y) : ns.idxOf x < ns.idxOf y := by
  have h1 := List.idxOf_lt_length_of_mem hx
  have h2 := List.idxOf_lt_length_of_mem hy
  have e1 : ns[ns.idxOf x] = x := List.getElem_idxOf h1
  have e2 : ns[ns.idxOf y] = y := List.getElem_idxOf h2
  rcases Nat.lt_trichotomy (ns.idxOf x) (ns.idxOf y) with k | k | k
  · exact k
  · have : x = y := by rw [← e1, ← e2]; simp [k]
    omega
  · have := List.pairwise_iff_getElem.mp h _ _ h2 h1 k
    rw [e1, e2] at this
    omega
theorem ren_cl {ns : List Int} (h : ns.Pairwise (· < ·)) {c : List Int} (hc : c.Pairwise (· < ·)) (hm : ∀ l ∈ c, ab l ∈ ns) (h0 : ∀ l ∈ c, l ≠ 0) : isCl (ns.length : Nat) (ren ns c) = true := by
  refine isCl_iff.mpr ⟨fun y hy => ?_, ?_⟩
  · obtain ⟨l, hl, rfl⟩ := List.mem_map.mp hy
    have hi := List.idxOf_lt_length_of_mem (hm l hl)
    unfold ab at hi
    unfold renL InR
    have := h0 l hl
    by_cases q : 0 < l
    · rw [if_neg (by omega)] at hi
      rw [if_pos q]; omega
    · rw [if_pos (by omega)] at hi
      rw [if_neg q]; omega
  · unfold ren
    rw [List.pairwise_map]
    refine List.Pairwise.imp_of_mem (fun {a b} ha hb hab => ?_) hc
    have ma := hm a ha
    have mb := hm b hb
    have za := h0 a ha
    have zb := h0 b hb
    unfold ab at ma mb
    unfold renL
    by_cases qa : 0 < a
    · rw [if_neg (by omega)] at ma mb
      rw [if_pos qa, if_pos (by omega)]
      have := idx_lt h ma mb hab
      omega
    · rw [if_pos (by omega)] at ma
      rw [if_neg qa]
      by_cases qb : 0 < b
      · rw [if_pos qb]; omega
      · rw [if_pos (by omega)] at mb
        rw [if_neg qb]
        have := idx_lt h mb ma (by omega)
        omega
theorem map_idx {ns : List Int} (h : ns.Nodup) : (ns.map fun x => (ns.idxOf x : Int) + 1) = nums ns.length := by
  refine List.ext_getElem? fun i => ?_
  unfold nums
  rw [List.getElem?_map, List.getElem?_map]
  rcases Nat.lt_or_ge i ns.length with k | k
  · rw [List.getElem?_range k, List.getElem?_eq_getElem k]
    show some ((ns.idxOf ns[i] : Int) + 1) = some ((i : Int) + 1)
    rw [h.idxOf_getElem i k]
  · rw [List.getElem?_eq_none k, List.getElem?_eq_none (by rw [List.length_range]; exact k)]; rfl
theorem lit_ren {ns : List Int} {b : As} {l : Int} (h0 : l ≠ 0) : lit b (renL ns l) = lit (fun x => b ((ns.idxOf x : Int) + 1)) l := by
  unfold lit renL
  by_cases q : 0 < l
  · rw [if_pos q, if_pos q, if_pos (by omega)]
  · rw [if_neg q, if_neg q, if_neg (by omega), Int.neg_neg]
theorem cnt_ren {ns : List Int} {cs : List (List Int)} (hn : ns.Nodup) (hm : ∀ c ∈ cs, ∀ l ∈ c, ab l ∈ ns) (h0 : ∀ c ∈ cs, ∀ l ∈ c, l ≠ 0) : cnt (ns.length : Nat) (cs.map (ren ns)) = sm ns a0 (hold cs) := by
  unfold cnt
  rw [Int.toNat_natCast, ← map_idx hn]
  have e : ∀ b : As, hold (cs.map (ren ns)) b = hold cs fun x => b ((ns.idxOf x : Int) + 1) := fun b => by
    unfold hold
    rw [List.all_map]
    refine all_cg fun c hc => ?_
    show (ren ns c).any (lit b) = _
    unfold ren
    rw [List.any_map]
    refine any_cg fun l hl => ?_
    exact lit_ren (h0 c hc l hl)
  rw [sm_congr e]
  refine sm_map (X := fun x => x ∈ ns) (f := fun x => (ns.idxOf x : Int) + 1) (P := hold cs) (fun x y hx hy e => ?_) (fun a b h => hold_dep fun c hc l hl => h _ (hm c hc l hl)) ns (fun x hx => hx) fun x _ => rfl
  have e2 : ns.idxOf x = ns.idxOf y := by omega
  have h1 := List.getElem_idxOf (List.idxOf_lt_length_of_mem hx)
  have h2 := List.getElem_idxOf (List.idxOf_lt_length_of_mem hy)
  rw [← h1, ← h2]
  simp [e2]
end Nt
set_option maxRecDepth 100000
set_option maxHeartbeats 1000000
/-! NtY: labels, parts, names by places. -/
namespace Nt
open PySem PySem.Spec PyProof.Rows L2
/-- a comprehension whose element's making changes what stood -/
theorem lcG {α : Type} {J : It} {G : Hp → Prop} {σ : L2.St} {H1 : Hp} {te : TE} {vs : List Nat} {Qd : Addr → Hp → Prop} {j : Nat} (as : List α) (f : α → V) (w : Walk J as.length G (YN as f)) (Iv : List α → List V → Hp → Prop)
    (hlen : as.length ≤ 100000) (hw : ∀ a, wipe ((wipe σ vs).set j (some (f a))) vs = wipe σ vs) (h0 : ∀ D, H1 D = none → Iv [] [] (upd H1 D (.lst []))) (hG : ∀ l ys H, Iv l ys H → G H)
    (he : ∀ D l a r ys H, as = l ++ a :: r → H1 D = none → Iv l ys H → H D = some (.lst ys) → ∀ Qe : VK, (∀ y H', H' D = some (.lst ys) → Iv (l ++ [a]) (ys ++ [y]) (upd H' D (.lst (ys ++ [y]))) → Qe y H') → te ((wipe σ vs).set j (some (f a))) H Qe)
    (hd : ∀ D ys H, H1 D = none → Iv as ys H → H D = some (.lst ys) → Qd D H) : LcW J (gName j) tYes te vs σ H1 Qd := by
  intro D hD
  refine lc_it w (Qd := fun H => Qd D H) (fun i H => ∃ ys, Iv (as.take i) ys H ∧ H D = some (.lst ys) ∧ ys.length = i) ⟨[], by rw [List.take_zero]; exact h0 D hD, upd_same, rfl⟩ (fun i H _ ⟨ys, q, _⟩ => hG _ _ _ q) ?_ ?_
  · rintro i x H H' hi ⟨ys, q, hys, hl⟩ ⟨rfl, a, ha, rfl⟩
    obtain ⟨hlt, hge⟩ := List.getElem?_eq_some_iff.mp ha
    have e1 : as = as.take i ++ a :: as.drop (i + 1) := by rw [← hge, List.getElem_cons_drop, List.take_append_drop]
    have etk : as.take (i + 1) = as.take i ++ [a] := by rw [List.take_add_one, ha]; rfl
    refine ⟨hw a, ?_⟩
    unfold tYes
    dsimp only
    rw [if_pos rfl]
    refine he D _ a _ ys H' e1 hD q hys _ fun y H2 h2 q2 => ⟨ys, h2, sz_lt (by omega), ys ++ [y], ?_, upd_same, by rw [List.length_append, hl]; rfl⟩
    rw [etk]; exact q2
  · rintro H ⟨ys, q, hys, hl⟩
    rw [List.take_length] at q
    exact hd D ys H hD q hys
def sp_head_of (K : PySem.W.Frag) : Sp := fun vs H Q _ => ∃ (h : Addr) (x : Int) (kvs : List (Key × V)) (ks : List Int) (ρ : Int → Int), vs = [.ref h, .int x] ∧ H h = some (.dK kvs) ∧ Lb kvs ks ρ ∧ ks.length ≤ 1000 ∧
  ∀ H' kvs', Ke h H H' → H' h = some (.dK kvs') → Lb kvs' ks ρ → Q (.int (ρ x)) H'
theorem len_head_of (K : PySem.W.Frag) : ∀ vs H Q E, sp_head_of K vs H Q E → vs.length = 2 := by
  rintro vs H Q E ⟨h, x, kvs, ks, ρ, rfl, _⟩; rfl
def sp_renamed_clauses (K : PySem.W.Frag) : Sp := fun vs H Q _ => ∃ (a b : Addr) (ns : List Int) (as : List Cl), vs = [.ref a, .ref b] ∧ H a = some (.lst (ns.map V.int)) ∧ H b = some (.lst (as.map rf)) ∧ CLs H as ∧ ns.Nodup ∧ ns.length ≤ 1000 ∧ as.length ≤ 30000 ∧ (∀ x ∈ as, ∀ l ∈ x.2, ab l ∈ ns ∧ l ≠ 0) ∧ (∀ x ∈ as, x.2.length ≤ 1000) ∧
  ∀ H' q bs, Same H H' → H' q = some (.lst (bs.map rf)) → CLs H' bs → bs.map (·.2) = as.map (fun x => ren ns x.2) → Q (.ref q) H'
theorem len_renamed_clauses (K : PySem.W.Frag) : ∀ vs H Q E, sp_renamed_clauses K vs H Q E → vs.length = 2 := by
  rintro vs H Q E ⟨a, b, ns, as, rfl, _⟩; rfl
theorem idx_val {ns : List Int} (hn : ns.Nodup) {x : Int} (hx : x ∈ ns) : valV (mergeK [] (ns.zipIdx.map fun p => ((Sum.inl p.1 : Key), V.int ((p.2 : Int) + 1)))) (.inl x) = some (.int ((ns.idxOf x : Int) + 1)) := by
  have hk : ((ns.zipIdx.map fun p => ((Sum.inl p.1 : Key), V.int ((p.2 : Int) + 1))).map (·.1)).Nodup := by
    rw [List.map_map]
    have e : ((fun x : Key × V => x.1) ∘ fun p : Int × Nat => ((Sum.inl p.1 : Key), V.int ((p.2 : Int) + 1))) = (fun x : Int => (Sum.inl x : Key)) ∘ fun p : Int × Nat => p.1 := rfl
    rw [e, ← List.map_map, List.zipIdx_map_fst]
    exact List.Pairwise.map _ (fun a b (h : a ≠ b) q => h (Sum.inl.inj q)) hn
  rw [valV_merged hk]
  refine valV_mem hk ?_
  have hi := List.idxOf_lt_length_of_mem hx
  refine List.mem_map.mpr ⟨(x, ns.idxOf x), ?_, rfl⟩
  rw [List.mem_zipIdx_iff_getElem?, List.getElem?_eq_getElem hi, List.getElem_idxOf hi]
section
variable {P : Program} {w : World} {K : PySem.W.Frag} {mg : Str → Option Value} {base : Heap}
theorem sc_head_of : FnScope ["heads", "number", "here"] ["heads", "number"] (defScope s_head_of) := ⟨rfl, rfl, rfl, by decide +kernel, rfl, by decide +kernel, by decide +kernel⟩
theorem ok_head_of (T : Tx K mg)  : CalF P w K mg base ("head_of", none) 1 ["heads", "number"] (sp_head_of K) := by
  refine calF T (d := d_head_of) 41 rfl sc_head_of rfl rfl (fun _ _ _ _ _ _ us hl => match us, hl with | [_, _], _ => rfl) (len_head_of K) ?_
  intro cdv A outer s H vs Q E hr h
  have hu := hu_of hr
  obtain ⟨h, x, kvs, ks, ρ, rfl, hh, L, hl, k⟩ := h
  refine ⟨_, (pss_cons (ps_set (i := 2) sc_head_of.nd rfl (Or.inl rfl) (pv 1))
      (pss_cons (ps_while PassesOwn.never (pt_cmpR op_ne (pe_dget2 hu (pv 0) (pv 2) (pv 2) ⟨rfl, rfl, rfl, rfl⟩) (pv 2) (nomark _)) (pss_one (ps_set (i := 2) sc_head_of.nd rfl (Or.inl rfl) (pe_dget hu (pv 0) (pv 2) (fun _ _ => rfl)))))
      (pss_cons (ps_if (pt_cmp (pc_din hu (pv 1) (pv 0))) (pss_one (ps_dput hu (pv 0) (pv 1) (pv 2) rfl)) pss_nil)
      (pss_one (ps_ret (pv 2)))))), ?_⟩
  refine ⟨_, rfl, ?_⟩
  refine ⟨fun m σ H2 => ∃ y, σ = [some (.ref h), some (.int x), some (.int y)] ∧ H2 = H ∧ ρ y = ρ x ∧ (m = y.toNat + 1), ⟨_, x, rfl, rfl, rfl, rfl⟩, ?_⟩
  rintro m σ H2 ⟨y, rfl, rfl, hy, rfl⟩
  have fin : ρ y = y → y = ρ x := fun e => by rw [← hy, e]
  refine ⟨_, rfl, h, rfl, .inl ⟨_, .inl hh⟩, _, rfl, _, rfl, _, DGet.k (k := .inl y) hh, _, rfl, ?_⟩
  by_cases hk : y ∈ ks
  · obtain ⟨z, e1, e2, e3, e4, e5⟩ := L.get y hk
    rw [e1]
    refine ⟨rfl, _, rfl, ?_⟩
    rw [show (some (V.int z)).getD (V.int y) = V.int z from rfl, dec_int]
    by_cases hz : z = y
    · rw [decide_eq_true hz]
      refine iteF ?_
      have ey := fin (e3 hz)
      subst ey
      refine ⟨_, rfl, _, rfl, h, _, rfl, DGet.k (k := .inl x) hh, _, rfl, ?_⟩
      rw [L.some]
      by_cases hx : x ∈ ks
      · rw [decide_eq_true hx]
        refine iteT ⟨_, rfl, _, rfl, _, rfl, h, _, rfl, DPut.k (k := .inl x) hh ?_, _, rfl, k _ _ .own upd_same (L.short hx)⟩
        have := congrArg List.length L.keys
        rw [List.length_map, List.length_map] at this
        exact sz_lt (by omega)
      · rw [decide_eq_false hx]
        exact iteF ⟨_, rfl, k _ _ (.refl _ _) hh L⟩
    · rw [decide_eq_false hz]
      refine iteT ⟨_, fun _ _ h => h, ?_⟩
      exact ⟨_, rfl, _, rfl, h, .int z, rfl, by rw [← e1]; exact DGet.k (k := .inl y) hh, z.toNat + 1, by omega, z, rfl, rfl, e2.trans hy, rfl⟩
  · rw [L.none hk]
    refine ⟨rfl, _, rfl, ?_⟩
    rw [show (none : Option V).getD (V.int y) = V.int y from rfl, dec_int, decide_eq_true rfl]
    refine iteF ?_
    have ey := fin (L.out y hk)
    subst ey
    refine ⟨_, rfl, _, rfl, h, _, rfl, DGet.k (k := .inl x) hh, _, rfl, ?_⟩
    rw [L.some]
    by_cases hx : x ∈ ks
    · exact absurd (L.into x hx) hk
    · rw [decide_eq_false hx]
      exact iteF ⟨_, rfl, k _ _ (.refl _ _) hh L⟩
theorem sc_renamed_clauses : FnScope ["numbers", "clauses", "known", "place", "number", "one", "clause"] ["numbers", "clauses"] (defScope s_renamed_clauses) := ⟨rfl, rfl, rfl, by decide +kernel, rfl, by decide +kernel, by decide +kernel⟩
theorem ok_renamed_clauses (T : Tx K mg)  : CalF P w K mg base ("renamed_clauses", none) 1 ["numbers", "clauses"] (sp_renamed_clauses K) := by
  have mg_dict : mg "dict" = none := T.free 58
  have mg_tuple : mg "tuple" = none := T.free 73
  have mg_enumerate : mg "enumerate" = none := T.free 59
  refine calF T (d := d_renamed_clauses) 42 rfl sc_renamed_clauses rfl rfl (fun _ _ _ _ _ _ us hl => match us, hl with | [_, _], _ => rfl) (len_renamed_clauses K) ?_
  intro cdv A outer s H vs Q E hr h
  have hu := hu_of hr
  obtain ⟨a, b, ns, as, rfl, ha, hb, hcs, hn, hnl, hal, hm, hsh, k⟩ := h
  refine ⟨_, (pss_cons (ps_set (i := 2) sc_renamed_clauses.nd rfl (Or.inr rfl) (pe_callTy (call_dictP rfl) (by rfl) mg_dict bt_dict (pa_cons (pe_lc (own := [("place", 3), ("number", 4)]) (g := gTup K 2 (gCons (gName 3) (gCons (gName 4) gNil))) (tt := tYes) rfl sc_renamed_clauses.nd (pi_enum (by rfl) mg_enumerate (pa_cons (pv 0) pa_nil)) (blkOk_by (by kernel_rfl)) (fun _ _ _ _ _ => (pg_tup rfl (pgs_cons (pg_name (i := 3) sc_renamed_clauses.nd rfl (Or.inl rfl)) (pgs_cons (pg_name (i := 4) sc_renamed_clauses.nd rfl (Or.inl rfl)) pgs_nil)))) (fun _ _ _ _ _ => pts_nil) (fun _ _ _ _ _ => (pe_tup (pa_cons (pv 4) (pa_cons (pe_op op_add (pv 3) pe_int) pa_nil))))) pa_nil)))
      (pss_one (ps_ret (pe_lc (own := [("clause", 6)]) (g := gName 6) (tt := tYes) rfl sc_renamed_clauses.nd (pi_seqK (K := K) rfl (pv 1)) (blkOk_by (by kernel_rfl)) (fun _ _ _ _ _ => (pg_name (i := 6) sc_renamed_clauses.nd rfl (Or.inl rfl))) (fun _ _ _ _ _ => pts_nil) (fun _ _ _ _ _ => (pe_callTy call_tuple2 (by rfl) mg_tuple bt_tuple (pa_cons (pe_lc (own := [("one", 5)]) (g := gName 5) (tt := tYes) rfl sc_renamed_clauses.nd (pi_tupK (K := K) rfl (pv 6)) (blkOk_by (by kernel_rfl)) (fun _ _ _ _ _ => (pg_name (i := 5) sc_renamed_clauses.nd rfl (Or.inl rfl))) (fun _ _ _ _ _ => pts_nil) (fun _ _ _ _ _ => (pe_ifExp (pt_cmpR op_gt (pv 5) pe_int (nomark _)) (pe_dget hu (pv 2) (pv 5) (fun _ _ => rfl)) (pe_op op_sub pe_int (pe_dget hu (pv 2) (pe_op op_sub pe_int (pv 5)) (fun _ _ => rfl)))))) pa_nil))))))), ?_⟩
  refine ⟨_, rfl, a, _, rfl, SqL.of ha, ?_⟩
  refine lcT0 ns.zipIdx _ (wkE ns V.int) yPair (fun p => [.int p.1, .int ((p.2 : Int) + 1)]) (by rw [List.length_zipIdx]; omega) (by intro _; rfl) (fun H h => SqL.of (h _ _ ha)) ?_ ?_
  · intro p hp H1 s1 Qe q
    exact ⟨_, rfl, _, rfl, _, _, rfl, rfl, by show 2 ≤ sizeLine; decide, fun t ht => q t _ (Same.new ht) upd_same⟩
  · intro D H1 ys _ s1 h1 hp
    obtain ⟨ps, rfl, hps⟩ := paired_dict (K := K) (f := fun p : Int × Nat => (Sum.inl p.1 : Key)) (v := fun p => V.int ((p.2 : Int) + 1)) hp
    refine ⟨D, ps, _, rfl, SqL.of h1, hps, fun d hd => ?_⟩
    have s2 := s1.trans (Same.new (o := .dK (mergeK [] (ns.zipIdx.map fun p => ((Sum.inl p.1 : Key), V.int ((p.2 : Int) + 1))))) hd)
    have hdd : ∀ H', Same (upd H1 d (.dK (mergeK [] (ns.zipIdx.map fun p => ((Sum.inl p.1 : Key), V.int ((p.2 : Int) + 1)))))) H' → ∀ x ∈ ns, DGet H' d (.int x) (some (.int ((ns.idxOf x : Int) + 1))) := fun H' s x hx => by
      have := DGet.k (k := .inl x) (s _ _ upd_same)
      rw [idx_val hn hx] at this
      exact this
    refine seqGo as rf (fun Q q => ⟨_, rfl, q⟩) (.inl (s2 _ _ hb)) fun J G w0 hG => ?_
    refine lcT0 as _ w0 yName (fun x => (ren ns x.2).map V.int) (by omega) (by intro _; rfl) hG ?_ ?_
    · intro x hx H3 s3 Qe q
      have s23 := s2.trans s3
      have hx2 := s23 _ _ (hcs x hx)
      refine ⟨_, rfl, x.1, rfl, ⟨_, SqT.of hx2⟩, ?_⟩
      refine lcV0 x.2 _ (wkT x.2 V.int) yName (fun l => .int (renL ns l)) (by have := hsh x hx; omega) (by intro _; rfl) (fun H h => SqT.of (h _ _ hx2)) ?_ ?_
      · intro l hl H4 s4 Qe2 q2
        obtain ⟨m1, m2⟩ := hm x hx l hl
        have s34 := s3.trans s4
        refine ⟨_, rfl, _, _, rfl, rfl, _, rfl, ite2 (fun h => ?_) (fun h => ?_)⟩
        · have h0 : 0 < l := of_decide_eq_true h
          have e : ab l = l := by unfold ab; split <;> omega
          rw [e] at m1
          refine ⟨_, rfl, _, rfl, d, _, rfl, hdd _ s34 l m1, ?_⟩
          have q2 := q2 _ (Same.refl _)
          unfold renL at q2
          rw [if_pos h0] at q2
          exact q2
        · have h0 : ¬ 0 < l := fun z => h (decide_eq_true z)
          have e : ab l = -l := by unfold ab; split <;> omega
          rw [e] at m1
          refine ⟨_, rfl, _, rfl, _, _, rfl, rfl, d, _, rfl, (by have z := hdd _ s34 (-l) m1; rw [← Int.zero_sub] at z; exact z), _, _, rfl, rfl, ?_⟩
          have q2 := q2 _ (Same.refl _)
          unfold renL at q2
          rw [if_neg h0] at q2
          rw [← Int.zero_sub, ← Int.zero_sub l] at q2
          exact q2
      · intro D4 H4 _ s4 h4
        have e : (x.2.map fun l => V.int (renL ns l)) = (ren ns x.2).map V.int := by unfold ren; rw [List.map_map]; rfl
        rw [e] at h4
        exact ⟨D4, _, rfl, h4, fun t ht => q t _ (s4.trans (Same.new ht)) upd_same⟩
    · intro D3 H3 zs _ s3 h3 hp3
      obtain ⟨bs, rfl, eb, hbs⟩ := paired_cls (f := fun x : Cl => ren ns x.2) hp3
      exact k H3 D3 bs (s2.trans s3) h3 hbs eb
end
end Nt
set_option maxRecDepth 100000
set_option maxHeartbeats 1000000
/-! NtY2: groups_of. -/
namespace Nt
open PySem PySem.Spec PyProof.Rows L2
structure Gr where
  r : Int
  t : Addr
  n : Addr
  c : Addr
/-- the dict of groups at f: what stands in their lists -/
structure GAt (H0 H : Hp) (f : Addr) (gs : List Gr) (Nm : Int → List Int) (Cm : Int → List Cl) : Prop where
  at_ : H f = some (.dK (gs.map fun g => ((Sum.inl g.r : Key), V.ref g.t)))
  rn : (gs.map (·.r)).Nodup
  ob : ∀ g ∈ gs, H g.t = some (.tup [.ref g.n, .ref g.c]) ∧ H g.n = some (.lst ((Nm g.r).map V.int)) ∧ H g.c = some (.lst ((Cm g.r).map rf))
  fr : ∀ g ∈ gs, H0 g.n = none ∧ H0 g.c = none
  nn : ∀ g ∈ gs, ∀ g' ∈ gs, g.n = g'.n → g.r = g'.r
  cc : ∀ g ∈ gs, ∀ g' ∈ gs, g.c = g'.c → g.r = g'.r
  nc : ∀ g ∈ gs, ∀ g' ∈ gs, g.n ≠ g'.c
section
variable {H0 H H' : Hp} {f : Addr} {gs : List Gr} {Nm : Int → List Int} {Cm : Int → List Cl}
theorem GAt.same (h : GAt H0 H f gs Nm Cm) (s : Same H H') : GAt H0 H' f gs Nm Cm :=
  ⟨s _ _ h.at_, h.rn, fun g hg => ⟨s _ _ (h.ob g hg).1, s _ _ (h.ob g hg).2.1, s _ _ (h.ob g hg).2.2⟩, h.fr, h.nn, h.cc, h.nc⟩
theorem GAt.ke (h : GAt H0 H f gs Nm Cm) {x : Addr} {kvs : List (Key × V)} (hx : H x = some (.dK kvs)) (hf : f ≠ x) (s : Ke x H H') : GAt H0 H' f gs Nm Cm :=
  ⟨s _ _ hf h.at_, h.rn, fun g hg => ⟨s _ _ (ne_of (h.ob g hg).1 hx (by intro z; cases z)) (h.ob g hg).1, s _ _ (ne_of (h.ob g hg).2.1 hx (by intro z; cases z)) (h.ob g hg).2.1, s _ _ (ne_of (h.ob g hg).2.2 hx (by intro z; cases z)) (h.ob g hg).2.2⟩, h.fr, h.nn, h.cc, h.nc⟩
theorem GAt.find (h : GAt H0 H f gs Nm Cm) {r : Int} : (∃ g ∈ gs, g.r = r ∧ valV (gs.map fun g => ((Sum.inl g.r : Key), V.ref g.t)) (.inl r) = some (.ref g.t)) ∨ (r ∉ gs.map (·.r) ∧ valV (gs.map fun g => ((Sum.inl g.r : Key), V.ref g.t)) (.inl r) = none) := by
  have hk : ((gs.map fun g => ((Sum.inl g.r : Key), V.ref g.t)).map (·.1)).Nodup := by
    rw [List.map_map]
    have e : ((fun x : Key × V => x.1) ∘ fun g : Gr => ((Sum.inl g.r : Key), V.ref g.t)) = (fun x : Int => (Sum.inl x : Key)) ∘ fun g : Gr => g.r := rfl
    rw [e, ← List.map_map]
    exact List.Pairwise.map _ (fun a b (h : a ≠ b) q => h (Sum.inl.inj q)) h.rn
  by_cases hr : r ∈ gs.map (·.r)
  · obtain ⟨g, hg, rfl⟩ := List.mem_map.mp hr
    exact .inl ⟨g, hg, rfl, valV_mem hk (List.mem_map.mpr ⟨g, hg, rfl⟩)⟩
  · refine .inr ⟨hr, valV_none fun z => hr ?_⟩
    rw [List.map_map] at z
    obtain ⟨g, hg, e⟩ := List.mem_map.mp z
    exact List.mem_map.mpr ⟨g, hg, Sum.inl.inj e⟩
theorem GAt.addN (h : GAt H0 H f gs Nm Cm) {g : Gr} (hg : g ∈ gs) (x : Int) : GAt H0 (upd H g.n (.lst ((Nm g.r).map V.int ++ [.int x]))) f gs (fun r => if r = g.r then Nm r ++ [x] else Nm r) Cm := by
  have hn := (h.ob g hg).2.1
  refine ⟨(upd_ne (ne_of h.at_ hn (by intro z; cases z))).trans h.at_, h.rn, fun g' hg' => ⟨?_, ?_, ?_⟩, h.fr, h.nn, h.cc, h.nc⟩
  · exact (upd_ne (ne_of (h.ob g' hg').1 hn (by intro z; cases z))).trans (h.ob g' hg').1
  · by_cases e : g'.n = g.n
    · have er := h.nn g' hg' g hg e
      rw [e, upd_same, if_pos er, er, List.map_append]; rfl
    · rw [upd_ne e]
      by_cases er : g'.r = g.r
      · exfalso
        have h1 : gs.map (·.r) = gs.map (·.r) := rfl
        -- one group of each label
        obtain ⟨i, hi⟩ := List.getElem?_of_mem hg
        obtain ⟨j, hj⟩ := List.getElem?_of_mem hg'
        have a1 : (gs.map (·.r))[i]? = some g.r := by rw [List.getElem?_map, hi]; rfl
        have a2 : (gs.map (·.r))[j]? = some g.r := by rw [List.getElem?_map, hj, ← er]; rfl
        have := nd_ix h.rn a1 a2
        subst this
        rw [hi] at hj
        exact e (by rw [Option.some.inj hj])
      · rw [if_neg er]; exact (h.ob g' hg').2.1
  · exact (upd_ne fun z => h.nc g hg g' hg' z.symm).trans (h.ob g' hg').2.2
theorem GAt.addC (h : GAt H0 H f gs Nm Cm) {g : Gr} (hg : g ∈ gs) (x : Cl) : GAt H0 (upd H g.c (.lst ((Cm g.r).map rf ++ [rf x]))) f gs Nm (fun r => if r = g.r then Cm r ++ [x] else Cm r) := by
  have hn := (h.ob g hg).2.2
  refine ⟨(upd_ne (ne_of h.at_ hn (by intro z; cases z))).trans h.at_, h.rn, fun g' hg' => ⟨?_, ?_, ?_⟩, h.fr, h.nn, h.cc, h.nc⟩
  · exact (upd_ne (ne_of (h.ob g' hg').1 hn (by intro z; cases z))).trans (h.ob g' hg').1
  · exact (upd_ne fun z => h.nc g' hg' g hg z).trans (h.ob g' hg').2.1
  · by_cases e : g'.c = g.c
    · have er := h.cc g' hg' g hg e
      rw [e, upd_same, if_pos er, er, List.map_append]; rfl
    · rw [upd_ne e]
      by_cases er : g'.r = g.r
      · exfalso
        obtain ⟨i, hi⟩ := List.getElem?_of_mem hg
        obtain ⟨j, hj⟩ := List.getElem?_of_mem hg'
        have a1 : (gs.map (·.r))[i]? = some g.r := by rw [List.getElem?_map, hi]; rfl
        have a2 : (gs.map (·.r))[j]? = some g.r := by rw [List.getElem?_map, hj, ← er]; rfl
        have := nd_ix h.rn a1 a2
        subst this
        rw [hi] at hj
        exact e (by rw [Option.some.inj hj])
      · rw [if_neg er]; exact (h.ob g' hg').2.2
/-- a new group -/
theorem GAt.new (h : GAt H0 H f gs Nm Cm) {r : Int} {t n c : Addr} (hr : r ∉ gs.map (·.r)) (hn : H n = none) (hc : H c = none) (hnc : n ≠ c) (s : Same H H') (ht' : H' t = some (.tup [.ref n, .ref c])) (hn' : H' n = some (.lst [])) (hc' : H' c = some (.lst [])) (hf : H0 n = none ∧ H0 c = none)
    (e1 : Nm r = []) (e2 : Cm r = []) : GAt H0 (upd H' f (.dK (gs.map (fun g => ((Sum.inl g.r : Key), V.ref g.t)) ++ [(.inl r, .ref t)]))) f (gs ++ [⟨r, t, n, c⟩]) Nm Cm := by
  have h2 := h.same s
  have mem : ∀ {g : Gr}, g ∈ gs ++ [⟨r, t, n, c⟩] → g ∈ gs ∨ g = ⟨r, t, n, c⟩ := fun hg => by simpa using hg
  have on : ∀ g ∈ gs, g.n ≠ n ∧ g.n ≠ c ∧ g.c ≠ n ∧ g.c ≠ c := fun g hg => ⟨ne_of_none (h.ob g hg).2.1 hn, ne_of_none (h.ob g hg).2.1 hc, ne_of_none (h.ob g hg).2.2 hn, ne_of_none (h.ob g hg).2.2 hc⟩
  refine ⟨?_, ?_, fun g hg => ?_, fun g hg => ?_, fun g hg g' hg' e => ?_, fun g hg g' hg' e => ?_, fun g hg g' hg' e => ?_⟩
  · rw [upd_same, List.map_append]; rfl
  · rw [List.map_append, List.nodup_append]
    exact ⟨h.rn, by simp, fun a ha b hb e => hr (by rw [← show b = r by simpa using hb, ← e]; exact ha)⟩
  · rcases mem hg with hg | rfl
    · exact ⟨(upd_ne (ne_of (h2.ob g hg).1 h2.at_ (by intro z; cases z))).trans (h2.ob g hg).1, (upd_ne (ne_of (h2.ob g hg).2.1 h2.at_ (by intro z; cases z))).trans (h2.ob g hg).2.1, (upd_ne (ne_of (h2.ob g hg).2.2 h2.at_ (by intro z; cases z))).trans (h2.ob g hg).2.2⟩
    · refine ⟨(upd_ne (ne_of ht' h2.at_ (by intro z; cases z))).trans ht', ?_, ?_⟩
      · rw [e1]; exact (upd_ne (ne_of hn' h2.at_ (by intro z; cases z))).trans hn'
      · rw [e2]; exact (upd_ne (ne_of hc' h2.at_ (by intro z; cases z))).trans hc'
  · rcases mem hg with hg | rfl
    · exact h.fr g hg
    · exact hf
  · rcases mem hg with hg | rfl <;> rcases mem hg' with hg' | rfl
    · exact h.nn g hg g' hg' e
    · exact absurd e (on g hg).1
    · exact absurd e.symm (on g' hg').1
    · rfl
  · rcases mem hg with hg | rfl <;> rcases mem hg' with hg' | rfl
    · exact h.cc g hg g' hg' e
    · exact absurd e (on g hg).2.2.2
    · exact absurd e.symm (on g' hg').2.2.2
    · rfl
  · rcases mem hg with hg | rfl <;> rcases mem hg' with hg' | rfl
    · exact h.nc g hg g' hg' e
    · exact (on g hg).2.1 e
    · exact (on g' hg').2.2.1 e.symm
    · exact hnc e
end
/-- a group as it comes out -/
structure GO where
  t : Addr
  n : Addr
  c : Addr
  ns : List Int
  cs : List Cl
def sp_groups_of (K : PySem.W.Frag) : Sp := fun vs H Q _ => ∃ (v : Addr) (many : Int) (as : List Cl), vs = [.ref v] ∧ SAsk H v many as ∧ (∀ x ∈ as, x.2 ≠ []) ∧
  ∀ H' q (gs : List GO), Same H H' → H' q = some (.lst (gs.map fun g => V.ref g.t)) → (∀ g ∈ gs, H' g.t = some (.tup [.ref g.n, .ref g.c]) ∧ H' g.n = some (.lst (g.ns.map V.int)) ∧ H' g.c = some (.lst (g.cs.map rf)) ∧ ∀ x ∈ g.cs, x ∈ as) →
    PartsOk many (as.map (·.2)) (gs.map fun g => (g.ns, g.cs.map (·.2))) → (∀ g ∈ gs, g.cs.length ≤ 30000) → gs.length ≤ 1000 → Q (.ref q) H'
theorem len_groups_of (K : PySem.W.Frag) : ∀ vs H Q E, sp_groups_of K vs H Q E → vs.length = 1 := by
  rintro vs H Q E ⟨v, many, as, rfl, _⟩; rfl
/-- the labels put the clauses seen together -/
structure Tog (many : Int) (ks : List Int) (ρ : Int → Int) (don : List Cl) : Prop where
  inr : ∀ x ∈ ks, 1 ≤ x ∧ x ≤ many
  one : ∀ c ∈ don, ∀ l ∈ c.2, ab l ∈ ks ∧ ∀ l' ∈ c.2, ρ (ab l') = ρ (ab l)
theorem Tog.len {many : Int} {ks : List Int} {ρ : Int → Int} {don : List Cl} (lo : 0 ≤ many) (hi : many ≤ 30) (nd : ks.Nodup) (h : Tog many ks ρ don) : ks.length ≤ 30 := by
  have := List.Nodup.length_le_of_subset nd (l₂ := nums many.toNat) fun x hx => mem_nums.mpr (by have := h.inr x hx; omega)
  rw [nums_len] at this
  omega
theorem Tog.step {many : Int} {kvs kvs2 : List (Key × V)} {ks ks2 : List Int} {ρ : Int → Int} {don : List Cl} {c : Cl} {m : Int} (h : Tog many ks ρ don) (L : Lb kvs ks ρ) (hc : ∀ l ∈ c.2, InR many l) (u : Un kvs kvs2 ks ks2 (sset (c.2.map fun l => ρ (ab l))) m) :
    Tog many ks2 (join ρ (sset (c.2.map fun l => ρ (ab l))) m) (don ++ [c]) := by
  have mi : ∀ x, x ∈ sset (c.2.map fun l => ρ (ab l)) ↔ ∃ l ∈ c.2, ρ (ab l) = x := fun x => by rw [mem_sset, List.mem_map]
  refine ⟨fun x hx => ?_, fun d hd l hl => ?_⟩
  · rcases (u.mem x).mp hx with q | q
    · exact h.inr x q
    · obtain ⟨l, hl, rfl⟩ := (mi x).mp q
      by_cases e : ab l ∈ ks
      · exact h.inr _ (L.into _ e)
      · rw [L.out _ e]; exact ab_in (hc l hl)
  · rcases List.mem_append.mp hd with hd | hd
    · obtain ⟨h1, h2⟩ := h.one d hd l hl
      refine ⟨(u.mem _).mpr (.inl h1), fun l' hl' => ?_⟩
      unfold join
      rw [h2 l' hl']
    · rw [List.mem_singleton.mp hd] at hl ⊢
      have hin : ∀ l ∈ c.2, ρ (ab l) ∈ sset (c.2.map fun l => ρ (ab l)) := fun l hl => (mi _).mpr ⟨l, hl, rfl⟩
      refine ⟨?_, fun l' hl' => ?_⟩
      · by_cases e : ab l ∈ ks
        · exact (u.mem _).mpr (.inl e)
        · have := hin l hl
          rw [L.out _ e] at this
          exact (u.mem _).mpr (.inr this)
      · unfold join
        rw [if_pos (hin l hl), if_pos (hin l' hl')]
section
variable {P : Program} {w : World} {K : PySem.W.Frag} {mg : Str → Option Value} {base : Heap}
theorem sc_groups_of : FnScope ["clauses", "heads", "clause", "its", "one", "number", "found"] ["clauses"] (defScope s_groups_of) := ⟨rfl, rfl, rfl, by decide +kernel, rfl, by decide +kernel, by decide +kernel⟩
theorem ok_groups_of (T : Tx K mg) (C_head_of : CalF P w K mg base ("head_of", none) 1 ["heads", "number"] (sp_head_of K)) : CalF P w K mg base ("groups_of", none) 2 ["clauses"] (sp_groups_of K) := by
  have mg_sorted : mg "sorted" = none := T.free 69
  have mg_list : mg "list" = none := T.free 63
  have mg_set : mg "set" = none := T.free 68
  have mg_abs : mg "abs" = none := T.free 54
  obtain ⟨fd_head_of, b_head_of, G_head_of, kp_head_of⟩ := C_head_of
  have mg_head_of : mg "head_of" = some (.ref (He.ga K "head_of")) := T.glo 25
  refine calF T (d := d_groups_of) 40 rfl sc_groups_of rfl rfl (fun _ _ _ _ _ _ us hl => match us, hl with | [_], _ => rfl) (len_groups_of K) ?_
  intro cdv A outer s H vs Q E hr h
  have hu := hu_of hr
  obtain ⟨v, many, as, rfl, S0, hne, k⟩ := h
  have lo := S0.lo
  have hi : many ≤ 30 := Int.le_trans S0.hi (by decide)
  refine ⟨_, (pss_cons (ps_set (i := 1) sc_groups_of.nd rfl (Or.inr rfl) pe_dnewK)
      (pss_cons (ps_for PassesOwn.never rfl (pi_seqK (K := K) rfl (pv 0)) (pg_name (i := 2) sc_groups_of.nd rfl (Or.inl rfl)) (pss_cons (ps_set (i := 3) sc_groups_of.nd rfl (Or.inl rfl) (pe_sortedSet rfl (by rfl) mg_sorted (by rfl) mg_set (pe_lc (own := [("one", 4)]) (g := gName 4) (tt := tYes) rfl sc_groups_of.nd (pi_tupK (K := K) rfl (pv 2)) (blkOk_by (by kernel_rfl)) (fun _ _ _ _ _ => (pg_name (i := 4) sc_groups_of.nd rfl (Or.inl rfl))) (fun _ _ _ _ _ => pts_nil) (fun _ _ _ _ _ => (pe_call G_head_of (hr.mono (by decide)) (by rfl) mg_head_of kp_head_of b_head_of .nil pass0 (pa_cons (pv 1) (pa_cons (pe_callB call_abs (by rfl) mg_abs bt_abs (pa_cons (pv 4) pa_nil)) pa_nil)))))))
      (pss_one (ps_for PassesOwn.never rfl (pi_listK (K := K) rfl (pv 3)) (pg_name (i := 5) sc_groups_of.nd rfl (Or.inl rfl)) (pss_one (ps_dput hu (pv 1) (pv 5) (pe_ix ix_list2 (pv 3) pe_int (fun _ _ => rfl)) rfl))))))
      (pss_cons (ps_set (i := 6) sc_groups_of.nd rfl (Or.inl rfl) pe_dnewK)
      (pss_cons (ps_for PassesOwn.never rfl (pi_listK (K := K) rfl (pe_callB (call_sortedDI rfl) (by rfl) mg_sorted bt_sorted (pa_cons (pv 1) pa_nil))) (pg_name (i := 5) sc_groups_of.nd rfl (Or.inl rfl)) (pss_one (ps_expr (pe_bm PySem.F.plainAttrs_list PySem.F.slot_list_append PySem.F.type_list_append mt_append (pe_ix ix_tup2 (pe_dsetd (pv 6) (pe_call G_head_of (hr.mono (by decide)) (by rfl) mg_head_of kp_head_of b_head_of .nil pass0 (pa_cons (pv 1) (pa_cons (pv 5) pa_nil))) (pe_tup (pa_cons (pe_lst pa_nil) (pa_cons (pe_lst pa_nil) pa_nil))) ⟨rfl, rfl, rfl, rfl⟩) pe_int (fun _ _ => rfl)) (pa_cons (pv 5) pa_nil)))))
      (pss_cons (ps_for PassesOwn.never rfl (pi_seqK (K := K) rfl (pv 0)) (pg_name (i := 2) sc_groups_of.nd rfl (Or.inl rfl)) (pss_one (ps_expr (pe_bm PySem.F.plainAttrs_list PySem.F.slot_list_append PySem.F.type_list_append mt_append (pe_ix ix_tup2 (pe_dget hu (pv 6) (pe_call G_head_of (hr.mono (by decide)) (by rfl) mg_head_of kp_head_of b_head_of .nil pass0 (pa_cons (pv 1) (pa_cons (pe_callB call_abs (by rfl) mg_abs bt_abs (pa_cons (pe_ix ix_tup2 (pv 2) pe_int (fun _ _ => rfl)) pa_nil)) pa_nil))) (fun _ _ => rfl)) pe_int (fun _ _ => rfl)) (pa_cons (pv 2) pa_nil)))))
      (pss_one (ps_ret (pe_listVals rfl (by rfl) mg_list (pv 6))))))))), ?_⟩
  refine fun h hh => ?_
  have s1 := Same.new (o := .dK []) hh
  refine seqGoF (H0 := H) as rf s1 (fun Q q => ⟨_, rfl, q⟩) S0.at_ fun J G w0 hG => ?_
  refine forA as (fun σ x => σ.set 2 (some (rf x))) w0 (fun σ => yName) (fun don σ H2 => ∃ c2 c3 c4 c5 kvs ks ρ, σ = [some (.ref v), some (.ref h), c2, c3, c4, c5, none] ∧ Same H H2 ∧ H2 h = some (.dK kvs) ∧ Lb kvs ks ρ ∧ Tog many ks ρ don)
    ⟨none, none, none, none, [], [], id, rfl, s1, upd_same, .nil, ⟨fun _ h => (by cases h), fun _ h => (by cases h)⟩⟩ (fun l σ H2 ⟨_, _, _, _, _, _, _, _, s2, _⟩ => hG _ s2) ?_ ?_
  · rintro l c r σ H2 H3 e ⟨c2, c3, c4, c5, kvs, ks, ρ, rfl, s2, hh2, L, Tg⟩ s3
    have hcm : c ∈ as := by rw [e]; simp
    have hcl := isCl_iff.mp (S0.cl c hcm)
    have hlen : c.2.length ≤ 61 := Nat.le_trans (isCl_len lo (S0.cl c hcm)) (by omega)
    have hc0 := S0.cls c hcm
    have s23 := s2.trans s3
    have hks := Tg.len lo hi L.nd
    refine ⟨_, rfl, c.1, rfl, ⟨_, SqT.of (s23 _ _ hc0)⟩, ?_⟩
    refine lcG c.2 V.int (wkT c.2 V.int) (fun don ys H4 => Same H H4 ∧ ∃ kvs', H4 h = some (.dK kvs') ∧ Lb kvs' ks ρ ∧ ys = don.map fun l => V.int (ρ (ab l))) (by omega) (by intro _; rfl) (fun D hD => ⟨s23.trans (Same.new hD), kvs, Same.new hD _ _ (s3 _ _ hh2), L, rfl⟩) (fun l ys H4 q => SqT.of (q.1 _ _ hc0)) ?_ ?_
    · rintro D l' a r' ys H4 e4 hD ⟨s4, kvs', hh4, L4, rfl⟩ hDl Qe q
      have hDh : D ≠ h := (ne_of_none (s3 _ _ hh2) hD).symm
      have hD0 : H D = none := s23.free hD
      have hh0 : H h = none := hh
      refine ⟨_, rfl, _, rfl, a, rfl, h, ab a, kvs', ks, ρ, rfl, hh4, L4, by omega, fun H5 kvs5 K5 hh5 L5 => ?_⟩
      refine q _ H5 (K5 _ _ hDh hDl) ⟨fun y o ey => ?_, kvs5, ?_, L5, by rw [List.map_append]; rfl⟩
      · rw [upd_ne (ne_of_none ey hD0)]
        exact K5 _ _ (ne_of_none ey hh0) (s4 _ _ ey)
      · rw [upd_ne hDh.symm]; exact hh5
    · rintro D ys H4 hD ⟨s4, kvs', hh4, L4, rfl⟩ hDl
      have e4 : (c.2.map fun l => V.int (ρ (ab l))) = (c.2.map fun l => ρ (ab l)).map V.int := by rw [List.map_map]; rfl
      rw [e4] at hDl
      refine ⟨D, _, rfl, .inl hDl, by rw [List.length_map]; omega, fun p0 H5 s5 hp0 hp0l => ?_⟩
      -- the least label
      have hne0 : sset (c.2.map fun l => ρ (ab l)) ≠ [] := fun z => by
        match hc : c.2, hne c hcm with
        | l0 :: _, _ =>
          have : ρ (ab l0) ∈ sset (c.2.map fun l => ρ (ab l)) := mem_sset.mpr (List.mem_map.mpr ⟨l0, by rw [hc]; simp, rfl⟩)
          rw [z] at this; cases this
      have mi : ∀ x, x ∈ sset (c.2.map fun l => ρ (ab l)) ↔ ∃ l ∈ c.2, ρ (ab l) = x := fun x => by rw [mem_sset, List.mem_map]
      have hpw := sset_pw (c.2.map fun l => ρ (ab l))
      generalize hits : sset (c.2.map fun l => ρ (ab l)) = its at *
      obtain ⟨m, its', rfl⟩ : ∃ m its', its = m :: its' := by
        match its, hne0 with
        | m :: r, _ => exact ⟨m, r, rfl⟩
      have hle : ∀ x ∈ m :: its', 1 ≤ m ∧ m ≤ x := fun x hx => by
        have h1 : 1 ≤ m := by
          obtain ⟨l, hl, e⟩ := (mi m).mp (by simp)
          by_cases q : ab l ∈ ks
          · rw [← e]; exact (L4.le _ q).1
          · rw [← e, L4.out _ q]; exact (ab_in (hcl.1 l hl)).1
        rcases List.mem_cons.mp hx with rfl | hx
        · exact ⟨h1, Int.le_refl _⟩
        · exact ⟨h1, Int.le_of_lt ((List.pairwise_cons.mp hpw).1 x hx)⟩
      have hr : ∀ x ∈ m :: its', ρ x = x := fun x hx => by
        obtain ⟨l, hl, e⟩ := (mi x).mp hx
        rw [← e, L4.idem]
      have hph : p0 ≠ h := ne_of hp0l (s5 _ _ hh4) (by intro z; cases z)
      refine ⟨_, rfl, p0, rfl, ⟨_, SqL.of hp0l⟩, ?_⟩
      refine forA (m :: its') (fun σ x => σ.set 5 (some (.int x))) (wkL (m :: its') V.int) (fun σ => yName) (fun don2 σ H6 => ∃ c5 kvs2 ks2, σ = [some (.ref v), some (.ref h), some (rf c), some (.ref p0), c4, c5, none] ∧ Same H H6 ∧ H6 h = some (.dK kvs2) ∧ H6 p0 = some (.lst ((m :: its').map V.int)) ∧ Un kvs' kvs2 ks ks2 don2 m)
        ⟨c5, kvs', ks, rfl, s4.trans s5, s5 _ _ hh4, hp0l, .start L4 m⟩ (fun l σ H6 ⟨_, _, _, _, _, _, q, _⟩ => SqL.of q) ?_ ?_
      · rintro l2 x r2 σ H6 H7 e6 ⟨c5', kvs2, ks2, rfl, s6, hh6, hp6, U⟩ s7
        obtain ⟨ks3, U3⟩ := U.step x
        have hkl : kvs2.length ≤ 1000 := by
          have h1 := congrArg List.length U.keys
          rw [List.length_map, List.length_map] at h1
          have h2 := List.Nodup.length_le_of_subset U.nd (l₂ := ks ++ l2) fun z hz => List.mem_append.mpr ((U.mem z).mp hz)
          rw [List.length_append] at h2
          have h3 := congrArg List.length e6
          rw [List.length_append] at h3
          have h4 : (m :: its').length ≤ 61 := by rw [← hits]; refine Nat.le_trans (sset_len _) ?_; rw [List.length_map]; omega
          simp only [List.length_cons] at h3 h4
          omega
        refine ⟨_, rfl, p0, _, 0, .int m, rfl, rfl, s7 _ _ hp6, atI_nat (j := 0) rfl, _, rfl, _, rfl, h, _, rfl, DPut.k (k := .inl x) (s7 _ _ hh6) (sz_lt (by omega)), ?_⟩
        exact ⟨_, _, ks3, rfl, Same.mut (s6.trans s7) hh, upd_same, by rw [upd_ne hph]; exact s7 _ _ hp6, U3⟩
      · rintro σ H6 ⟨c5', kvs2, ks2, rfl, s6, hh6, hp6, U⟩
        rw [← hits] at U
        have T2 := Tg.step L4 hcl.1 U
        rw [hits] at U T2
        exact ⟨_, _, _, _, kvs2, ks2, join ρ (m :: its') m, rfl, s6, hh6, U.done L4 (by simp) hle hr, T2⟩
  · rintro σ H2 ⟨c2, c3, c4, c5, kvs, ks, ρ, rfl, s2, hh2, L, Tg⟩
    have hks := Tg.len lo hi L.nd
    have hh0 : H h = none := hh
    refine fun f hf => ?_
    have sf := Same.new (o := .dK []) hf
    have hhf : h ≠ f := ne_of_none hh2 hf
    refine ⟨_, rfl, h, kvs, ks, rfl, .inl (sf _ _ hh2), L.keys, by omega, fun xs p1 hxp hxo hp1 => ?_⟩
    have sp := Same.new (o := .lst (xs.map V.int)) hp1
    have sfp := sf.trans sp
    have s3 := s2.trans sfp
    have hf0 : H f = none := s2.free hf
    have hp10 : H p1 = none := (s2.trans sf).free hp1
    have hxn : xs.Nodup := hxp.nodup_iff.mpr L.nd
    have hxw : xs.Pairwise (· < ·) := (hxo.and hxn).imp fun h => by omega
    have hxl : xs.length ≤ 30 := by rw [hxp.length_eq]; exact hks
    have hxm : ∀ x, x ∈ xs ↔ x ∈ ks := fun x => hxp.mem_iff
    -- the frame of the groups' lists
    generalize hB : upd (upd H2 f (.dK [])) p1 (.lst (xs.map V.int)) = HB at *
    have hB1 : HB p1 = some (.lst (xs.map V.int)) := by rw [← hB]; exact upd_same
    have hBf : HB f = some (.dK []) := sp _ _ upd_same
    have hBh : HB h = some (.dK kvs) := sfp _ _ hh2
    have hpf : p1 ≠ f := ne_of hB1 hBf (by intro z; cases z)
    have hph : p1 ≠ h := ne_of hB1 hBh (by intro z; cases z)
    -- the frame stays, but for the two dicts
    have KS : ∀ {H3 : Hp}, (∀ y o, y ≠ f → y ≠ h → HB y = some o → H3 y = some o) → Same H H3 := fun kb y o ey => kb y o (ne_of_none ey hf0) (ne_of_none ey hh0) (s3 _ _ ey)
    have KN : ∀ {H3 : Hp} {y : Addr}, (∀ y o, y ≠ f → y ≠ h → HB y = some o → H3 y = some o) → (∃ o, H3 f = some o) → (∃ o, H3 h = some o) → H3 y = none → HB y = none := fun {H3 y} kb ⟨o1, h1⟩ ⟨o2, h2⟩ hy => by
      cases q : HB y with
      | none => rfl
      | some o =>
        have e1 : y ≠ f := fun z => by rw [z, h1] at hy; cases hy
        have e2 : y ≠ h := fun z => by rw [z, h2] at hy; cases hy
        rw [kb y o e1 e2 q] at hy; cases hy
    refine ⟨p1, rfl, ⟨_, SqL.of hB1⟩, ?_⟩
    refine forA xs (fun σ x => σ.set 5 (some (.int x))) (wkL xs V.int) (fun σ => yName) (fun don σ H3 => ∃ c5 kvs gs, σ = [some (.ref v), some (.ref h), c2, c3, c4, c5, some (.ref f)] ∧ (∀ y o, y ≠ f → y ≠ h → HB y = some o → H3 y = some o) ∧ H3 h = some (.dK kvs) ∧ Lb kvs ks ρ ∧
      GAt HB H3 f gs (fun r => don.filter fun x => decide (ρ x = r)) (fun _ => []) ∧ (∀ r, r ∈ gs.map (·.r) ↔ ∃ x ∈ don, ρ x = r) ∧ gs.length ≤ don.length)
      ⟨c5, kvs, [], rfl, fun y o _ _ e => e, hBh, L, ⟨hBf, List.nodup_nil, fun _ h => (by cases h), fun _ h => (by cases h), fun _ h => (by cases h), fun _ h => (by cases h), fun _ h => (by cases h)⟩, fun r => ⟨fun h => (by cases h), fun ⟨_, h, _⟩ => (by cases h)⟩, Nat.le_refl _⟩ (fun l σ H3 ⟨_, _, _, _, q, _⟩ => SqL.of (q _ _ hpf hph hB1)) ?_ ?_
    · rintro l x r σ H3 H4 e ⟨c5', kvs3, gs, rfl, kb3, hh3, L3, GA, hro, hgl⟩ s4
      have GA4 := GA.same s4
      have hll : l.length ≤ 30 := by
        have := congrArg List.length e
        rw [List.length_append] at this
        omega
      have efil : ∀ r', ((l ++ [x]).filter fun y => decide (ρ y = r')) = if r' = ρ x then (l.filter fun y => decide (ρ y = r')) ++ [x] else l.filter fun y => decide (ρ y = r') := fun r' => by
        rw [List.filter_append]
        by_cases q : r' = ρ x
        · rw [if_pos q, q]; simp
        · rw [if_neg q]
          have : ([x].filter fun y => decide (ρ y = r')) = [] := by simp; exact fun z => q z.symm
          rw [this, List.append_nil]
      refine ⟨_, rfl, f, rfl, .inl ⟨_, .inl GA4.at_⟩, _, rfl, _, rfl, h, x, kvs3, ks, ρ, rfl, s4 _ _ hh3, L3, by omega, fun H5 kvs5 K5 hh5 L5 => ?_⟩
      have GA5 := GA4.ke (s4 _ _ hh3) hhf.symm K5
      have kb5 : ∀ y o, y ≠ f → y ≠ h → HB y = some o → H5 y = some o := fun y o e1 e2 ey => K5 _ _ e2 (s4 _ _ (kb3 y o e1 e2 ey))
      refine ⟨Nat.zero_le _, fun n' hn' => ⟨Nat.zero_le _, fun c' hc' => ⟨by show 2 ≤ sizeLine; decide, fun t' ht' => ?_⟩⟩⟩
      have g1 := Same.new (o := .lst []) hn'
      have g2 := Same.new (o := .lst []) hc'
      have g3 := Same.new (o := .tup [.ref n', .ref c']) ht'
      have g123 := g1.trans (g2.trans g3)
      have GA6 := GA5.same g123
      refine ⟨_, .inl (ρ x), GA6.at_, rfl, sz_lt (by rw [List.length_map]; omega), fun w hw => ?_, fun hn => ?_⟩
      · rcases GA6.find (r := ρ x) with ⟨g, hg, hgr, hgv⟩ | ⟨_, hno⟩
        · rw [hgv] at hw
          cases hw
          obtain ⟨o1, o2, o3⟩ := GA6.ob g hg
          have hfl : ((l.filter fun y => decide (ρ y = g.r)).map V.int).length ≤ 30 := by
            rw [List.length_map]
            have h1 := List.length_filter_le (fun y => decide (ρ y = g.r)) l
            omega
          refine ⟨g.t, _, 0, .ref g.n, rfl, rfl, o1, rfl, .inl ⟨rfl, _, SqL.of o2⟩, _, rfl, g.n, _, _, rfl, rfl, o2, sz_lt (by omega), ?_⟩
          have GA7 := GA6.addN hg x
          have hfr := (GA6.fr g hg).1
          refine ⟨_, kvs5, gs, rfl, fun y o e1 e2 ey => ?_, ?_, L5, ?_, fun r' => ?_, by rw [List.length_append]; simp; omega⟩
          · rw [upd_ne (ne_of_none ey hfr)]; exact g123 _ _ (kb5 y o e1 e2 ey)
          · rw [upd_ne (ne_of_none hBh hfr)]; exact g123 _ _ hh5
          · have ef : (fun r' => (l ++ [x]).filter fun y => decide (ρ y = r')) = fun r' => if r' = g.r then (l.filter fun y => decide (ρ y = r')) ++ [x] else l.filter fun y => decide (ρ y = r') := funext fun r' => by rw [efil, hgr]
            rw [ef]; exact GA7
          · rw [hro]
            constructor
            · rintro ⟨y, hy, q⟩; exact ⟨y, List.mem_append_left _ hy, q⟩
            · rintro ⟨y, hy, q⟩
              rcases List.mem_append.mp hy with hy | hy
              · exact ⟨y, hy, q⟩
              · rw [List.mem_singleton.mp hy] at q
                exact (hro r').mp (by rw [← q, ← hgr]; exact List.mem_map.mpr ⟨g, hg, rfl⟩)
        · rw [hno] at hw; cases hw
      · rcases GA6.find (r := ρ x) with ⟨g, hg, hgr, hgv⟩ | ⟨hnr, hno⟩
        · rw [hgv] at hn; cases hn
        · rw [putK_new _ hn]
          have hem : (l.filter fun y => decide (ρ y = ρ x)) = [] := List.filter_eq_nil_iff.mpr fun y hy q => hnr ((hro _).mpr ⟨y, hy, of_decide_eq_true q⟩)
          have hnn := upd_same (H := H5) (a := n') (o := .lst [])
          have ntn : n' ≠ c' := ne_of_none hnn hc'
          have hnB : HB n' = none := KN kb5 ⟨_, GA5.at_⟩ ⟨_, hh5⟩ hn'
          have hc5 : H5 c' = none := g1.free hc'
          have hcB : HB c' = none := KN kb5 ⟨_, GA5.at_⟩ ⟨_, hh5⟩ hc5
          have ht3 := upd_same (H := upd (upd H5 n' (.lst [])) c' (.lst [])) (a := t') (o := .tup [.ref n', .ref c'])
          have hn3 := g3 _ _ (g2 _ _ hnn)
          have hc3 := g3 _ _ (upd_same (H := upd H5 n' (.lst [])) (a := c') (o := .lst []))
          have GA7 := GA5.new (r := ρ x) hnr hn' hc5 ntn g123 ht3 hn3 hc3 ⟨hnB, hcB⟩ hem rfl
          have hn7 : upd (upd (upd (upd H5 n' (.lst [])) c' (.lst [])) t' (.tup [.ref n', .ref c'])) f (.dK (gs.map (fun g => ((Sum.inl g.r : Key), V.ref g.t)) ++ [(.inl (ρ x), .ref t')])) n' = some (.lst []) := by
            rw [upd_ne (ne_of hn3 GA6.at_ (by intro z; cases z))]; exact hn3
          have ht7 : upd (upd (upd (upd H5 n' (.lst [])) c' (.lst [])) t' (.tup [.ref n', .ref c'])) f (.dK (gs.map (fun g => ((Sum.inl g.r : Key), V.ref g.t)) ++ [(.inl (ρ x), .ref t')])) t' = some (.tup [.ref n', .ref c']) := by
            rw [upd_ne (ne_of ht3 GA6.at_ (by intro z; cases z))]; exact ht3
          refine ⟨t', _, 0, .ref n', rfl, rfl, ht7, rfl, .inl ⟨rfl, _, SqL.of hn7⟩, _, rfl, n', _, _, rfl, rfl, hn7, by decide, ?_⟩
          have GA8 := GA7.addN (g := ⟨ρ x, t', n', c'⟩) (by simp) x
          have hhn : h ≠ n' := ne_of_none hh5 hn'
          refine ⟨_, kvs5, gs ++ [⟨ρ x, t', n', c'⟩], rfl, fun y o e1 e2 ey => ?_, ?_, L5, ?_, fun r' => ?_, by rw [List.length_append, List.length_append]; simp; omega⟩
          · rw [upd_ne (ne_of_none ey hnB), upd_ne e1]; exact g123 _ _ (kb5 y o e1 e2 ey)
          · rw [upd_ne hhn, upd_ne hhf]; exact g123 _ _ hh5
          · have ef : (fun r' => (l ++ [x]).filter fun y => decide (ρ y = r')) = fun r' => if r' = ρ x then (l.filter fun y => decide (ρ y = r')) ++ [x] else l.filter fun y => decide (ρ y = r') := funext fun r' => efil r'
            rw [ef]
            have GA8 := GA8
            rw [show ((l.filter fun y => decide (ρ y = (⟨ρ x, t', n', c'⟩ : Gr).r)).map V.int ++ [V.int x]) = [] ++ [V.int x] by rw [show (⟨ρ x, t', n', c'⟩ : Gr).r = ρ x from rfl, hem]; rfl] at GA8
            exact GA8
          · rw [List.map_append, List.mem_append, hro]
            constructor
            · rintro (⟨y, hy, q⟩ | q)
              · exact ⟨y, List.mem_append_left _ hy, q⟩
              · exact ⟨x, by simp, (show r' = ρ x by simpa using q).symm⟩
            · rintro ⟨y, hy, q⟩
              rcases List.mem_append.mp hy with hy | hy
              · exact .inl ⟨y, hy, q⟩
              · rw [List.mem_singleton.mp hy] at q
                exact .inr (by simp [q])
    · rintro σ H3 ⟨c5', kvs3, gs, rfl, kb3, hh3, L3, GA, hro, hgl⟩
      have HK := KS kb3
      have hgl30 : gs.length ≤ 30 := by omega
      refine seqGoF (H0 := H) as rf HK (fun Q q => ⟨_, rfl, q⟩) S0.at_ fun J2 G2 w2 hG2 => ?_
      refine forA as (fun σ x => σ.set 2 (some (rf x))) w2 (fun σ => yName) (fun don σ H4 => ∃ c2 kvs, σ = [some (.ref v), some (.ref h), c2, c3, c4, c5', some (.ref f)] ∧ (∀ y o, y ≠ f → y ≠ h → HB y = some o → H4 y = some o) ∧ H4 h = some (.dK kvs) ∧ Lb kvs ks ρ ∧
        GAt HB H4 f gs (fun r => xs.filter fun x => decide (ρ x = r)) (fun r => don.filter fun c => decide (ρ (ab (c.2.headD 0)) = r)))
        ⟨c2, kvs3, rfl, kb3, hh3, L3, GA⟩ (fun l σ H4 ⟨_, _, _, q, _⟩ => hG2 _ (KS q)) ?_ ?_
      · rintro l c r σ H4 H5 e ⟨c2', kvs4, rfl, kb4, hh4, L4, GA4⟩ s5
        have hcm : c ∈ as := by rw [e]; simp
        have GA5 := GA4.same s5
        obtain ⟨l0, lr, hc2⟩ : ∃ l0 lr, c.2 = l0 :: lr := by
          match hc : c.2, hne c hcm with
          | l0 :: lr, _ => exact ⟨l0, lr, rfl⟩
        have hc5 : H5 c.1 = some (.tup (c.2.map V.int)) := s5 _ _ (KS kb4 _ _ (S0.cls c hcm))
        have hat : atI (c.2.map V.int) 0 = some (.int l0) := atI_nat (j := 0) (by rw [hc2]; rfl)
        refine ⟨_, rfl, _, rfl, _, rfl, c.1, _, 0, .int l0, rfl, rfl, hc5, hat, l0, rfl, h, ab l0, kvs4, ks, ρ, rfl, s5 _ _ hh4, L4, by omega, fun H6 kvs6 K6 hh6 L6 => ?_⟩
        have GA6 := GA5.ke (s5 _ _ hh4) hhf.symm K6
        have kb6 : ∀ y o, y ≠ f → y ≠ h → HB y = some o → H6 y = some o := fun y o e1 e2 ey => K6 _ _ e2 (s5 _ _ (kb4 y o e1 e2 ey))
        have hl0 : l0 ∈ c.2 := by rw [hc2]; simp
        have hin : ρ (ab l0) ∈ gs.map (·.r) := (hro _).mpr ⟨ab l0, (hxm _).mpr (Tg.one c hcm l0 hl0).1, rfl⟩
        rcases GA6.find (r := ρ (ab l0)) with ⟨g, hg, hgr, hgv⟩ | ⟨hno, _⟩
        · obtain ⟨o1, o2, o3⟩ := GA6.ob g hg
          have hget := DGet.k (k := .inl (ρ (ab l0))) GA6.at_
          rw [hgv] at hget
          have hcl : ((l.filter fun c => decide (ρ (ab (c.2.headD 0)) = g.r)).map rf).length < 100000 := by
            rw [List.length_map]
            have h1 := List.length_filter_le (fun c : Cl => decide (ρ (ab (c.2.headD 0)) = g.r)) l
            have h2 := congrArg List.length e
            rw [List.length_append] at h2
            have := S0.len
            omega
          refine ⟨f, .ref g.t, rfl, hget, g.t, _, 1, .ref g.c, rfl, rfl, o1, rfl, .inl ⟨rfl, _, SqL.of o3⟩, _, rfl, g.c, _, _, rfl, rfl, o3, sz_lt hcl, ?_⟩
          have GA7 := GA6.addC hg c
          have hfr := (GA6.fr g hg).2
          refine ⟨_, kvs6, rfl, fun y o e1 e2 ey => ?_, ?_, L6, ?_⟩
          · rw [upd_ne (ne_of_none ey hfr)]; exact kb6 y o e1 e2 ey
          · rw [upd_ne (ne_of_none hBh hfr)]; exact hh6
          · have ef : (fun r' => (l ++ [c]).filter fun c => decide (ρ (ab (c.2.headD 0)) = r')) = fun r' => if r' = g.r then (l.filter fun c => decide (ρ (ab (c.2.headD 0)) = r')) ++ [c] else l.filter fun c => decide (ρ (ab (c.2.headD 0)) = r') := funext fun r' => by
              have eh : ρ (ab (c.2.headD 0)) = g.r := by rw [hc2, hgr]; rfl
              rw [List.filter_append]
              by_cases q : r' = g.r
              · rw [if_pos q, q]; simp only [List.filter_cons, List.filter_nil, eh, decide_true, if_true]
              · rw [if_neg q]
                have : ([c].filter fun c => decide (ρ (ab (c.2.headD 0)) = r')) = [] := by
                  simp only [List.filter_cons, List.filter_nil, eh]
                  rw [decide_eq_false fun z => q z.symm]; rfl
                rw [this, List.append_nil]
            rw [ef]; exact GA7
        · exact absurd hin hno
      · rintro σ H4 ⟨c2', kvs4, rfl, kb4, hh4, L4, GA4⟩
        refine ⟨_, rfl, f, _, rfl, GA4.at_, by rw [List.length_map]; omega, fun q hq => ?_⟩
        have sq := Same.new (o := .lst ((gs.map fun g => ((Sum.inl g.r : Key), V.ref g.t)).map (·.2))) hq
        have hmem : ∀ g : GO, g ∈ gs.map (fun g => (⟨g.t, g.n, g.c, xs.filter (fun x => decide (ρ x = g.r)), as.filter (fun c => decide (ρ (ab (c.2.headD 0)) = g.r))⟩ : GO)) → ∃ g0 ∈ gs, g = ⟨g0.t, g0.n, g0.c, xs.filter (fun x => decide (ρ x = g0.r)), as.filter (fun c => decide (ρ (ab (c.2.headD 0)) = g0.r))⟩ := fun g hg => by
          obtain ⟨g0, h0, e0⟩ := List.mem_map.mp hg
          exact ⟨g0, h0, e0.symm⟩
        refine k _ q (gs.map fun g => ⟨g.t, g.n, g.c, xs.filter (fun x => decide (ρ x = g.r)), as.filter (fun c => decide (ρ (ab (c.2.headD 0)) = g.r))⟩) ((KS kb4).trans sq) ?_ (fun g hg => ?_) ?_ (fun g hg => ?_) (by rw [List.length_map]; omega)
        · rw [upd_same, List.map_map, List.map_map]; rfl
        · obtain ⟨g0, h0, rfl⟩ := hmem g hg
          obtain ⟨o1, o2, o3⟩ := GA4.ob g0 h0
          exact ⟨sq _ _ o1, sq _ _ o2, sq _ _ o3, fun x hx => (List.mem_filter.mp hx).1⟩
        · rw [List.map_map]
          have hmp : ∀ p : Part, p ∈ gs.map ((fun g : GO => (g.ns, g.cs.map (·.2))) ∘ fun g : Gr => (⟨g.t, g.n, g.c, xs.filter (fun x => decide (ρ x = g.r)), as.filter (fun c => decide (ρ (ab (c.2.headD 0)) = g.r))⟩ : GO)) → ∃ g0 ∈ gs, p = (xs.filter (fun x => decide (ρ x = g0.r)), (as.filter (fun c => decide (ρ (ab (c.2.headD 0)) = g0.r))).map (·.2)) := fun p hp => by
            obtain ⟨g0, h0, e0⟩ := List.mem_map.mp hp
            exact ⟨g0, h0, e0.symm⟩
          have hd : ∀ c ∈ as, c.2.headD 0 ∈ c.2 := fun c hc => by
            match h : c.2, hne c hc with
            | l0 :: lr, _ => simp
          refine ⟨?_, fun p hp x hx => ?_, fun p hp => ?_, fun p hp c hc => ?_, fun c hc => ?_⟩
          · have key : ∀ gs : List Gr, (gs.map (·.r)).Nodup → ((gs.map ((fun g : GO => (g.ns, g.cs.map (·.2))) ∘ fun g : Gr => (⟨g.t, g.n, g.c, xs.filter (fun x => decide (ρ x = g.r)), as.filter (fun c => decide (ρ (ab (c.2.headD 0)) = g.r))⟩ : GO))).flatMap (·.1)).Nodup := by
              intro gs
              induction gs with
              | nil => intro _; exact List.nodup_nil
              | cons g gs ih =>
                intro hn
                obtain ⟨n1, n2⟩ := List.nodup_cons.mp (show (g.r :: gs.map (·.r)).Nodup from hn)
                rw [List.map_cons, List.flatMap_cons, List.nodup_append]
                refine ⟨hxn.filter _, ih n2, fun a ha b hb eab => ?_⟩
                have ha := of_decide_eq_true (List.mem_filter.mp ha).2
                obtain ⟨p, hp, hb⟩ := List.mem_flatMap.mp hb
                obtain ⟨g0, h0, rfl⟩ := List.mem_map.mp hp
                have hb := of_decide_eq_true (List.mem_filter.mp hb).2
                exact n1 (List.mem_map.mpr ⟨g0, h0, by rw [← hb, ← ha, eab]⟩)
            exact key gs GA4.rn
          · obtain ⟨g0, h0, rfl⟩ := hmp p hp
            exact Tg.inr x ((hxm x).mp (List.mem_filter.mp hx).1)
          · obtain ⟨g0, h0, rfl⟩ := hmp p hp
            exact hxw.filter _
          · obtain ⟨g0, h0, rfl⟩ := hmp p hp
            obtain ⟨y, hy, rfl⟩ := List.mem_map.mp hc
            obtain ⟨hya, hyr⟩ := List.mem_filter.mp hy
            refine ⟨List.mem_map.mpr ⟨y, hya, rfl⟩, fun l hl => ?_⟩
            obtain ⟨t1, t2⟩ := Tg.one y hya l hl
            refine List.mem_filter.mpr ⟨(hxm _).mpr t1, decide_eq_true ?_⟩
            rw [← t2 _ (hd y hya)]
            exact of_decide_eq_true hyr
          · obtain ⟨y, hy, rfl⟩ := List.mem_map.mp hc
            have t1 := (Tg.one y hy _ (hd y hy)).1
            obtain ⟨g0, h0, e0⟩ := List.mem_map.mp ((hro (ρ (ab (y.2.headD 0)))).mpr ⟨_, (hxm _).mpr t1, rfl⟩)
            exact ⟨_, List.mem_map.mpr ⟨g0, h0, rfl⟩, List.mem_map.mpr ⟨y, List.mem_filter.mpr ⟨hy, decide_eq_true e0.symm⟩, rfl⟩⟩
        · obtain ⟨g0, h0, rfl⟩ := hmem g hg
          exact Nat.le_trans (List.length_filter_le _ _) S0.len
end
end Nt
set_option maxRecDepth 100000
set_option maxHeartbeats 1000000
/-! NtY3: count_whole, count_values. -/
namespace Nt
open PySem PySem.Spec PyProof.Rows L2
/-- items with what stands at them -/
abbrev YF {α : Type} (as : List α) (f : α → V) (F : α → Hp → Prop) : Nat → Hp → V → Hp → Prop := fun i H x H' => H' = H ∧ ∃ a, as[i]? = some a ∧ x = f a ∧ F a H
theorem wkLF {α : Type} {K : PySem.W.Frag} {b : Addr} (as : List α) (f : α → V) (F : α → Hp → Prop) : Walk (Itl K b) as.length (fun H => SqL K H b (as.map f) ∧ ∀ x ∈ as, F x H) (YF as f F) :=
  (wkL as f).mono (fun H h => h.1) fun i H x H' hi h ⟨e, a, ha, ex⟩ => ⟨e, a, ha, ex, h.2 a (List.mem_of_getElem? ha)⟩
theorem yTup {α : Type} {K : PySem.W.Frag} {as : List α} {f : α → V} {t : α → Addr} {u1 u2 : α → V} {i j : Nat} {σ : L2.St} (ht : ∀ a, f a = .ref (t a)) : YG as (YF as f fun a H => H (t a) = some (.tup [u1 a, u2 a])) (gTup K 2 (gCons (gName i) (gCons (gName j) gNil))) σ (fun a => (σ.set i (some (u1 a))).set j (some (u2 a))) := by
  rintro n x H H' ⟨rfl, a, ha, rfl, hF⟩
  exact ⟨a, ha, fun Kt k => ⟨t a, _, ht a, SqT.of hF, rfl, _, _, rfl, _, _, rfl, rfl, k _ (Same.refl _)⟩⟩
theorem prodG_app : ∀ (xs ys : List Part), prodG (xs ++ ys) = prodG xs * prodG ys
  | [], ys => by show prodG ys = 1 * prodG ys; rw [Nat.one_mul]
  | g :: xs, ys => by show _ * prodG (xs ++ ys) = _ * prodG xs * prodG ys; rw [prodG_app xs ys, Nat.mul_assoc]
def ptG (g : GO) : Part := (g.ns, g.cs.map (·.2))
theorem le_prod {a b : Nat} (h : a * b ≠ 0) : a ≤ a * b := by
  rcases Nat.eq_zero_or_pos b with z | z
  · rw [z, Nat.mul_zero] at h; exact absurd rfl h
  · exact Nat.le_mul_of_pos_right _ z
def sp_count_whole (K : PySem.W.Frag) : Sp := fun vs H Q _ => ∃ (v : Addr) (many : Int) (most : Nat) (as : List Cl), vs = [.int many, .ref v, .int (most : Int)] ∧ SAsk H v many as ∧ cnt many (as.map (·.2)) ≤ most ∧ most ≤ 1000000 ∧ ∀ H', Same H H' → Q (.int (cnt many (as.map (·.2)) : Nat)) H'
theorem len_count_whole (K : PySem.W.Frag) : ∀ vs H Q E, sp_count_whole K vs H Q E → vs.length = 3 := by
  rintro vs H Q E ⟨v, many, most, as, rfl, _⟩; rfl
def sp_count_values (K : PySem.W.Frag) : Sp := fun vs H Q _ => ∃ (v : V) (many : Int) (as : List Cl), vs = [v] ∧ BdS H v many as ∧ cnt many (as.map (·.2)) ≤ 4000 ∧ ∀ H', Same H H' → Q (.int (cnt many (as.map (·.2)) : Nat)) H'
theorem len_count_values (K : PySem.W.Frag) : ∀ vs H Q E, sp_count_values K vs H Q E → vs.length = 1 := by
  rintro vs H Q E ⟨v, many, as, rfl, _⟩; rfl
theorem ask_nz {H : Hp} {v : Addr} {many : Int} {as : List Cl} (S0 : SAsk H v many as) : ∀ c ∈ as.map (·.2), ∀ l ∈ c, l ≠ 0 := fun c hc l hl => by
  obtain ⟨x, hx, rfl⟩ := List.mem_map.mp hc
  exact ((isCl_iff.mp (S0.cl x hx)).1 l hl).1
theorem ask_cl {H : Hp} {v : Addr} {many : Int} {as : List Cl} (S0 : SAsk H v many as) : ∀ c ∈ as.map (·.2), isCl many c = true := fun c hc => by
  obtain ⟨x, hx, rfl⟩ := List.mem_map.mp hc
  exact S0.cl x hx
/-- a paper of a bundle: nothing holds -/
theorem paper_no {many : Int} {cs ps : List (List Int)} (hc : ∀ c ∈ cs, isCl many c = true) (P : PaperOk many cs ps) (a : As) : hold cs a = false := by
  obtain ⟨qs, e⟩ := P.last
  have st := P.steps
  have hp := P.cl
  rw [e] at st hp
  exact paper_none (fun c h l hl => ((isCl_iff.mp (hc c h)).1 l hl).1) (fun c h l hl => ((isCl_iff.mp (hp c h)).1 l hl).1) st a
theorem vals_yes {many : Int} {cs : List (List Int)} {ys : List Int} (hc : ∀ c ∈ cs, isCl many c = true) (V : ValsOk many cs ys) : hold cs (asOf ys) = true := hold_asOf V.val hc V.holds
section
variable {P : Program} {w : World} {K : PySem.W.Frag} {mg : Str → Option Value} {base : Heap}
theorem sc_count_whole : FnScope ["many", "clauses", "most", "found", "left", "numbers", "its"] ["many", "clauses", "most"] (defScope s_count_whole) := ⟨rfl, rfl, rfl, by decide +kernel, rfl, by decide +kernel, by decide +kernel⟩
theorem ok_count_whole (T : Tx K mg) (C_groups_of : CalF P w K mg base ("groups_of", none) 2 ["clauses"] (sp_groups_of K)) (C_can_hold : CalF P w K mg base ("can_hold", none) 6 ["many", "clauses"] (sp_can_hold K)) (C_doubled : CalF P w K mg base ("doubled", none) 1 ["times", "most"] (sp_doubled K)) (C_count_by : CalF P w K mg base ("count_by", none) 6 ["many", "clauses", "most"] (sp_count_by K)) (C_renamed_clauses : CalF P w K mg base ("renamed_clauses", none) 1 ["numbers", "clauses"] (sp_renamed_clauses K)) : CalF P w K mg base ("count_whole", none) 7 ["many", "clauses", "most"] (sp_count_whole K) := by
  have mg_min : mg "min" = none := T.free 65
  have mg_len : mg "len" = none := T.free 62
  obtain ⟨fd_groups_of, b_groups_of, G_groups_of, kp_groups_of⟩ := C_groups_of
  obtain ⟨fd_can_hold, b_can_hold, G_can_hold, kp_can_hold⟩ := C_can_hold
  obtain ⟨fd_doubled, b_doubled, G_doubled, kp_doubled⟩ := C_doubled
  obtain ⟨fd_count_by, b_count_by, G_count_by, kp_count_by⟩ := C_count_by
  obtain ⟨fd_renamed_clauses, b_renamed_clauses, G_renamed_clauses, kp_renamed_clauses⟩ := C_renamed_clauses
  have mg_groups_of : mg "groups_of" = some (.ref (He.ga K "groups_of")) := T.glo 24
  have mg_can_hold : mg "can_hold" = some (.ref (He.ga K "can_hold")) := T.glo 12
  have mg_doubled : mg "doubled" = some (.ref (He.ga K "doubled")) := T.glo 20
  have mg_count_by : mg "count_by" = some (.ref (He.ga K "count_by")) := T.glo 23
  have mg_renamed_clauses : mg "renamed_clauses" = some (.ref (He.ga K "renamed_clauses")) := T.glo 26
  refine calF T (d := d_count_whole) 43 rfl sc_count_whole rfl rfl (fun _ _ _ _ _ _ us hl => match us, hl with | [_, _, _], _ => rfl) (len_count_whole K) ?_
  intro cdv A outer s H vs Q E hr h
  have hu := hu_of hr
  obtain ⟨v, many, most, as, rfl, S0, hcnt, hmost, k⟩ := h
  have lo := S0.lo
  have hi := S0.hi
  have hcl := ask_cl S0
  refine ⟨_, (pss_cons (ps_if (pt_not (pt_val (pe_call G_can_hold (hr.mono (by decide)) (by rfl) mg_can_hold kp_can_hold b_can_hold .nil pass0 (pa_cons (pv 0) (pa_cons (pv 1) pa_nil))))) (pss_one (ps_ret pe_int)) pss_nil)
      (pss_cons (ps_par (i := 3) (j := 4) (by rfl) sc_count_whole.nd rfl rfl (by decide) rfl rfl (pa_cons pe_int (pa_cons (pv 0) pa_nil)) (by rfl))
      (pss_cons (ps_for PassesOwn.never rfl (pi_listK (K := K) rfl (pe_call G_groups_of (hr.mono (by decide)) (by rfl) mg_groups_of kp_groups_of b_groups_of .nil pass0 (pa_cons (pv 1) pa_nil))) (pg_tup rfl (pgs_cons (pg_name (i := 5) sc_count_whole.nd rfl (Or.inl rfl)) (pgs_cons (pg_name (i := 6) sc_count_whole.nd rfl (Or.inl rfl)) pgs_nil))) (pss_cons (ps_set (i := 3) sc_count_whole.nd rfl (Or.inl rfl) (pe_callB (call_min2 rfl) (by rfl) mg_min bt_min (pa_cons (pe_op op_mulW (pv 3) (pe_call G_count_by (hr.mono (by decide)) (by rfl) mg_count_by kp_count_by b_count_by .nil pass0 (pa_cons (pe_callB call_len2 (by rfl) mg_len bt_len (pa_cons (pv 5) pa_nil)) (pa_cons (pe_call G_renamed_clauses (hr.mono (by decide)) (by rfl) mg_renamed_clauses kp_renamed_clauses b_renamed_clauses .nil pass0 (pa_cons (pv 5) (pa_cons (pv 6) pa_nil))) (pa_cons (pv 2) pa_nil))))) (pa_cons (pe_op op_add (pv 2) pe_int) pa_nil))))
      (pss_one (ps_set (i := 4) sc_count_whole.nd rfl (Or.inl rfl) (pe_op op_sub (pv 4) (pe_callB call_len2 (by rfl) mg_len bt_len (pa_cons (pv 5) pa_nil)))))))
      (pss_one (ps_ret (pe_callB (call_min2 rfl) (by rfl) mg_min bt_min (pa_cons (pe_op op_mulW (pv 3) (pe_call G_doubled (hr.mono (by decide)) (by rfl) mg_doubled kp_doubled b_doubled .nil pass0 (pa_cons (pv 4) (pa_cons (pv 2) pa_nil)))) (pa_cons (pe_op op_add (pv 2) pe_int) pa_nil)))))))), ?_⟩
  refine ⟨_, rfl, _, rfl, v, many, as, rfl, S0, fun H1 ps s1 P1 => ?_, fun H1 ys s1 V1 => ?_⟩
  · refine ⟨_, rfl, iteT ?_⟩
    have := k H1 s1
    rw [(cnt_zero hcl).mpr (paper_no hcl P1)] at this
    exact this
  · refine ⟨_, rfl, iteF ?_⟩
    have hpos : cnt many (as.map (·.2)) ≠ 0 := fun z => by
      have := (cnt_zero hcl).mp z (asOf ys)
      rw [vals_yes hcl V1] at this; cases this
    have hne : ∀ x ∈ as, x.2 ≠ [] := fun x hx z => by
      obtain ⟨l, hl, _⟩ := V1.holds x.2 (List.mem_map.mpr ⟨x, hx, rfl⟩)
      rw [z] at hl; cases hl
    have S1 : SAsk H1 v many as := ⟨S0.at_.imp (s1 _ _) (s1 _ _), S0.cls.mono s1, S0.lo, S0.hi, S0.cl, S0.len⟩
    refine ⟨_, rfl, _, _, rfl, ?_⟩
    refine ⟨_, rfl, v, many, as, rfl, S1, hne, fun H2 q gs s2 hq hob hP hgc hgl => ?_⟩
    have hP : PartsOk many (as.map (·.2)) (gs.map ptG) := hP
    refine ⟨q, rfl, ⟨_, SqL.of hq⟩, ?_⟩
    have hlenP := parts_len lo hP
    have htot := cnt_parts lo hP
    have c2 : CLs H2 as := S1.cls.mono s2
    -- the parts so far
    have part : ∀ (l r : List GO), gs = l ++ r → prodG (l.map ptG) ≤ cnt many (as.map (·.2)) ∧ ((l.map ptG).flatMap (·.1)).length ≤ many.toNat := fun l r e => by
      constructor
      · rw [htot, e, List.map_append, prodG_app, Nat.mul_assoc]
        rw [htot, e, List.map_append, prodG_app, Nat.mul_assoc] at hpos
        exact le_prod hpos
      · rw [e, List.map_append, List.flatMap_append, List.length_append] at hlenP
        omega
    refine forA gs (fun σ g => (σ.set 5 (some (.ref g.n))).set 6 (some (.ref g.c))) (wkLF gs (fun g => V.ref g.t) fun g H => H g.t = some (.tup [.ref g.n, .ref g.c])) (fun σ => yTup fun _ => rfl) (fun don σ H3 => ∃ x5 x6, σ = [some (.int many), some (.ref v), some (.int (most : Int)), some (.int (prodG (don.map ptG) : Nat)), some (.int ((many.toNat - ((don.map ptG).flatMap (·.1)).length : Nat) : Int)), x5, x6] ∧ Same H2 H3)
      ⟨none, none, ?_, Same.refl _⟩ (fun l σ H3 ⟨_, _, _, s3⟩ => ⟨SqL.of (s3 _ _ hq), fun g hg => s3 _ _ (hob g hg).1⟩) ?_ ?_
    · show [some (V.int many), some (.ref v), some (.int (most : Int)), some (.int 1), some (.int many), none, none] = [some (V.int many), some (.ref v), some (.int (most : Int)), some (.int ((1 : Nat) : Int)), some (.int ((many.toNat - 0 : Nat) : Int)), none, none]
      rw [Nat.sub_zero, Int.toNat_of_nonneg lo]; rfl
    · rintro l g r σ H3 H4 e ⟨x5, x6, rfl, s3⟩ s4
      have hg : g ∈ gs := by rw [e]; simp
      obtain ⟨o1, o2, o3, o4⟩ := hob g hg
      have s34 := s3.trans s4
      have hgp : ptG g ∈ gs.map ptG := List.mem_map.mpr ⟨g, hg, rfl⟩
      have hpw := hP.pw _ hgp
      have hsub := hP.sub _ hgp
      have hnn : g.ns.Nodup := pw_nodup hpw
      have hnl : g.ns.length ≤ many.toNat := by
        have := List.Nodup.length_le_of_subset hnn (l₂ := nums many.toNat) fun x hx => mem_nums.mpr (by have := hP.inr _ hgp x hx; omega)
        rwa [nums_len] at this
      have hgcs : ∀ x ∈ g.cs, ∀ l ∈ x.2, ab l ∈ g.ns ∧ l ≠ 0 := fun x hx l hl => ⟨(hsub x.2 (List.mem_map.mpr ⟨x, hx, rfl⟩)).2 l hl, ((isCl_iff.mp (S0.cl x (o4 x hx))).1 l hl).1⟩
      have hgs : ∀ x ∈ g.cs, x.2.length ≤ 1000 := fun x hx => by
        have := isCl_len lo (S0.cl x (o4 x hx))
        omega
      refine ⟨_, rfl, _, rfl, g.n, _, rfl, .inl (s34 _ _ o2), _, rfl, _, rfl, g.n, g.c, g.ns, g.cs, rfl, s34 _ _ o2, s34 _ _ o3, fun x hx => s34 _ _ (c2 x (o4 x hx)), hnn, by omega, hgc g hg, hgcs, hgs, fun H5 q5 bs s5 hq5 hbs eb => ?_⟩
      have ecnt : cnt (g.ns.length : Nat) (bs.map (·.2)) = sm g.ns a0 (hold (g.cs.map (·.2))) := by
        rw [eb]
        have e1 : (g.cs.map fun x => ren g.ns x.2) = (g.cs.map (·.2)).map (ren g.ns) := by rw [List.map_map]; rfl
        rw [e1]
        refine cnt_ren hnn (fun c hc l hl => ?_) fun c hc l hl => ?_
        · obtain ⟨x, hx, rfl⟩ := List.mem_map.mp hc
          exact (hgcs x hx l hl).1
        · obtain ⟨x, hx, rfl⟩ := List.mem_map.mp hc
          exact (hgcs x hx l hl).2
      have hpl := part l (g :: r) e
      have hpg := part (l ++ [g]) r (by rw [e]; simp)
      have eprod : prodG ((l ++ [g]).map ptG) = prodG (l.map ptG) * sm g.ns a0 (hold (g.cs.map (·.2))) := by
        rw [List.map_append, prodG_app]
        show _ * (_ * 1) = _
        rw [Nat.mul_one]; rfl
      have hlpos : 0 < prodG (l.map ptG) := by
        rcases Nat.eq_zero_or_pos (prodG (l.map ptG)) with z | z
        · exfalso
          apply hpos
          rw [htot, e, List.map_append, prodG_app, z, Nat.zero_mul, Nat.zero_mul]
        · exact z
      have hsm : sm g.ns a0 (hold (g.cs.map (·.2))) ≤ most := by
        have h1 : sm g.ns a0 (hold (g.cs.map (·.2))) ≤ prodG (l.map ptG) * sm g.ns a0 (hold (g.cs.map (·.2))) := Nat.le_mul_of_pos_left _ hlpos
        rw [← eprod] at h1
        omega
      have hbl : bs.length = g.cs.length := by simpa using congrArg List.length eb
      have S5 : SAsk H5 q5 (g.ns.length : Nat) bs := by
        refine ⟨.inl hq5, hbs, by omega, by omega, fun x hx => ?_, by rw [hbl]; exact hgc g hg⟩
        have hm : x.2 ∈ bs.map (·.2) := List.mem_map.mpr ⟨x, hx, rfl⟩
        rw [eb] at hm
        obtain ⟨y, hy, ey⟩ := List.mem_map.mp hm
        rw [← show ren g.ns y.2 = x.2 from ey]
        exact ren_cl hpw (isCl_iff.mp (S0.cl y (o4 y hy))).2 (fun l hl => (hgcs y hy l hl).1) fun l hl => (hgcs y hy l hl).2
      refine ⟨_, rfl, q5, (g.ns.length : Nat), most, bs, ?_, S5, by rw [ecnt]; exact hsm, hmost, fun H6 s6 => ?_⟩
      · rw [List.length_map]; rfl
      · rw [ecnt]
        have s36 := s34.trans (s5.trans s6)
        refine ⟨_, _, rfl, rfl, wide_mul (a := 20) (b := 20) (by show _ < 1048576; omega) (by show _ < 1048576; omega) (by decide) (by decide) (by decide), _, rfl, _, _, rfl, rfl, _, _, rfl, _, rfl, _, rfl, g.n, _, rfl, .inl (s36 _ _ o2), _, _, rfl, rfl, some (.ref g.n), some (.ref g.c), ?_, s36⟩
        have emin : (if ((most : Int) + 1) < (prodG (l.map ptG) : Nat) * (sm g.ns a0 (hold (g.cs.map (·.2))) : Nat) then ((most : Int) + 1) else (prodG (l.map ptG) : Nat) * (sm g.ns a0 (hold (g.cs.map (·.2))) : Nat)) = ((prodG ((l ++ [g]).map ptG) : Nat) : Int) := by
          rw [eprod, Int.natCast_mul]
          rw [eprod] at hpg
          have : ((prodG (l.map ptG) : Nat) : Int) * (sm g.ns a0 (hold (g.cs.map (·.2))) : Nat) ≤ most := by
            rw [← Int.natCast_mul]; omega
          rw [if_neg (by omega)]
        have elen : ((many.toNat - ((l.map ptG).flatMap (·.1)).length : Nat) : Int) - ((g.ns.map V.int).length : Nat) = ((many.toNat - (((l ++ [g]).map ptG).flatMap (·.1)).length : Nat) : Int) := by
          have h2 := hpg.2
          have e3 : (((l ++ [g]).map ptG).flatMap (·.1)).length = ((l.map ptG).flatMap (·.1)).length + g.ns.length := by
            rw [List.map_append, List.flatMap_append, List.length_append]
            simp [ptG]
          rw [e3] at h2 ⊢
          rw [List.length_map]
          omega
        rw [← emin, ← elen]
        rfl
    · rintro σ H3 ⟨x5, x6, rfl, s3⟩
      have h2 := (part gs [] (by simp)).1
      have hp1 : 1 ≤ prodG (gs.map ptG) := Nat.pos_of_ne_zero fun z => hpos (by rw [htot, z, Nat.zero_mul])
      have hpow : 2 ^ (many.toNat - ((gs.map ptG).flatMap (·.1)).length) ≤ most := by
        have := Nat.le_mul_of_pos_left (2 ^ (many.toNat - ((gs.map ptG).flatMap (·.1)).length)) hp1
        rw [← htot] at this
        omega
      have hd : dbl (many.toNat - ((gs.map ptG).flatMap (·.1)).length) most = 2 ^ (many.toNat - ((gs.map ptG).flatMap (·.1)).length) := by
        unfold dbl
        omega
      refine ⟨_, rfl, _, rfl, _, rfl, many.toNat - ((gs.map ptG).flatMap (·.1)).length, most, rfl, by omega, hmost, fun H4 s4 => ?_⟩
      rw [hd]
      refine ⟨_, _, rfl, rfl, wide_mul (a := 20) (b := 20) (by show _ < 1048576; omega) (by show _ < 1048576; omega) (by decide) (by decide) (by decide), _, rfl, _, _, rfl, rfl, _, _, rfl, ?_⟩
      have emin : (if ((most : Int) + 1) < (prodG (gs.map ptG) : Nat) * ((2 ^ (many.toNat - ((gs.map ptG).flatMap (·.1)).length) : Nat) : Int) then ((most : Int) + 1) else (prodG (gs.map ptG) : Nat) * ((2 ^ (many.toNat - ((gs.map ptG).flatMap (·.1)).length) : Nat) : Int)) = ((cnt many (as.map (·.2)) : Nat) : Int) := by
        rw [htot, Int.natCast_mul]
        rw [htot] at hcnt
        have h3 : ((prodG (gs.map ptG) : Nat) : Int) * ((2 ^ (many.toNat - ((gs.map ptG).flatMap (·.1)).length) : Nat) : Int) ≤ most := by
          rw [← Int.natCast_mul]; omega
        rw [if_neg (by omega)]
      have := k H4 (s1.trans (s2.trans (s3.trans s4)))
      rw [← emin] at this
      exact this
theorem sc_count_values : FnScope ["bundle", "found"] ["bundle"] (defScope s_count_values) := ⟨rfl, rfl, rfl, by decide +kernel, rfl, by decide +kernel, by decide +kernel⟩
theorem ok_count_values (T : Tx K mg) (C_check_bundle : CalF P w K mg base ("check_bundle", none) 4 ["bundle"] (sp_check_bundle K)) (C_count_whole : CalF P w K mg base ("count_whole", none) 7 ["many", "clauses", "most"] (sp_count_whole K)) : CalF P w K mg base ("count_values", none) 8 ["bundle"] (sp_count_values K) := by
  obtain ⟨t_MOST_COUNT, mg_MOST_COUNT⟩ := T.int 79 (x := "MOST_COUNT") (i := 4000)
  obtain ⟨fd_check_bundle, b_check_bundle, G_check_bundle, kp_check_bundle⟩ := C_check_bundle
  obtain ⟨fd_count_whole, b_count_whole, G_count_whole, kp_count_whole⟩ := C_count_whole
  have mg_check_bundle : mg "check_bundle" = some (.ref (He.ga K "check_bundle")) := T.glo 5
  have mg_count_whole : mg "count_whole" = some (.ref (He.ga K "count_whole")) := T.glo 27
  refine calF T (d := d_count_values) 44 rfl sc_count_values rfl rfl (fun _ _ _ _ _ _ us hl => match us, hl with | [_], _ => rfl) (len_count_values K) ?_
  intro cdv A outer s H vs Q E hr h
  have hu := hu_of hr
  obtain ⟨v, many, as, rfl, B, hcnt, k⟩ := h
  refine ⟨_, (pss_cons (ps_expr (pe_call G_check_bundle (hr.mono (by decide)) (by rfl) mg_check_bundle kp_check_bundle b_check_bundle .nil pass0 (pa_cons (pv 0) pa_nil)))
      (pss_cons (ps_set (i := 1) sc_count_values.nd rfl (Or.inl rfl) (pe_call G_count_whole (hr.mono (by decide)) (by rfl) mg_count_whole kp_count_whole b_count_whole .nil pass0 (pa_cons (pe_ix ix_tup2 (pv 0) pe_int (fun _ _ => rfl)) (pa_cons (pe_ix ix_tup2 (pv 0) pe_int (fun _ _ => rfl)) (pa_cons (pe_glob (v := .int 4000) (by rfl) mg_MOST_COUNT ⟨_, rfl⟩) pa_nil)))))
      (pss_cons (ps_if (pt_cmpR op_gt (pv 1) (pe_glob (v := .int 4000) (by rfl) mg_MOST_COUNT ⟨_, rfl⟩) (nomark _)) (pss_one (ps_never (st := _))) pss_nil)
      (pss_one (ps_ret (pv 1)))))), ?_⟩
  refine ⟨_, rfl, v, many, as, rfl, B.bd, B.ok, fun H1 s1 => ?_⟩
  have B1 := B.mono s1
  obtain ⟨x, b, rfl, hx, hb⟩ := B1.bd.at_
  refine ⟨_, rfl, _, _, _, _, rfl, rfl, hx, rfl, _, rfl, _, _, _, _, rfl, rfl, hx, rfl, b, many, 4000, as, rfl, ⟨.inr hb, B1.bd.cls, B.lo, B.hi, B.cl, B.len⟩, hcnt, by decide, fun H2 s2 => ?_⟩
  refine ⟨_, rfl, _, _, rfl, rfl, _, rfl, ?_⟩
  rw [decide_eq_false (by omega)]
  refine iteF ⟨_, rfl, ?_⟩
  exact k H2 (s1.trans s2)
end
end Nt
set_option maxRecDepth 100000
set_option maxHeartbeats 1000000
/-! NtY4: sure_of, sure_literals. -/
namespace Nt
open PySem PySem.Spec PyProof.Rows L2
/-- sure in all ways that hold -/
def Sure (many : Int) (cs : List (List Int)) (l : Int) : Prop := InR many l ∧ ∀ a, hold cs a = true → lit a l = true
def sp_sure_of (K : PySem.W.Frag) : Sp := fun vs H Q _ => ∃ (v : Addr) (many : Int) (as : List Cl), vs = [.int many, .ref v] ∧ SAsk H v many as ∧ as.length < 30000 ∧
  ((∀ a, hold (as.map (·.2)) a = false) → ∀ H', Same H H' → Q .non H') ∧
  ∀ H' q (L : List Int), Same H H' → H' q = some (.lst (L.map V.int)) → L.Pairwise (· < ·) → (∃ a, hold (as.map (·.2)) a = true) → (∀ l, l ∈ L ↔ Sure many (as.map (·.2)) l) → Q (.ref q) H'
theorem len_sure_of (K : PySem.W.Frag) : ∀ vs H Q E, sp_sure_of K vs H Q E → vs.length = 2 := by
  rintro vs H Q E ⟨v, many, as, rfl, _⟩; rfl
def sp_sure_literals (K : PySem.W.Frag) : Sp := fun vs H Q _ => ∃ (v : V) (many : Int) (as : List Cl), vs = [v] ∧ BdS H v many as ∧ as.length < 30000 ∧
  ((∀ a, hold (as.map (·.2)) a = false) → ∀ H', Same H H' → Q .non H') ∧
  ∀ H' q (L : List Int), Same H H' → H' q = some (.tup (L.map V.int)) → L.Pairwise (· < ·) → (∃ a, hold (as.map (·.2)) a = true) → (∀ l, l ∈ L ↔ Sure many (as.map (·.2)) l) → Q (.ref q) H'
theorem len_sure_literals (K : PySem.W.Frag) : ∀ vs H Q E, sp_sure_literals K vs H Q E → vs.length = 1 := by
  rintro vs H Q E ⟨v, many, as, rfl, _⟩; rfl
theorem hold_neg {cs : List (List Int)} {l : Int} (h0 : l ≠ 0) (a : As) : hold (cs ++ [[-l]]) a = (hold cs a && !lit a l) := by
  rw [hold_app]
  congr 1
  show ((lit a (-l) || false) && true) = _
  rw [lit_neg h0]; simp
theorem isCl_one {many l : Int} (h : InR many l) : isCl many [l] = true := isCl_iff.mpr ⟨fun x hx => by rw [List.mem_singleton.mp hx]; exact h, List.pairwise_singleton _ _⟩
section
variable {P : Program} {w : World} {K : PySem.W.Frag} {mg : Str → Option Value} {base : Heap}
theorem sc_sure_of : FnScope ["many", "clauses", "word", "found", "others", "one", "base", "left", "more"] ["many", "clauses"] (defScope s_sure_of) := ⟨rfl, rfl, rfl, by decide +kernel, rfl, by decide +kernel, by decide +kernel⟩
theorem ok_sure_of (T : Tx K mg) (C_solve : CalF P w K mg base ("solve", none) 6 ["many", "clauses"] (sp_solve K)) (C_solve_up : CalF P w K mg base ("solve_up", none) 6 ["many", "clauses"] (sp_solve_up K)) (C_can_hold : CalF P w K mg base ("can_hold", none) 6 ["many", "clauses"] (sp_can_hold K)) (C_Search_spread : CalF P w K mg base ("Search", some "spread") 3 ["self"] (sp_Search_spread K)) (C_Search_init : CalF P w K mg base ("Search", some "__init__") 4 ["self", "many", "clauses"] (sp_Search_init K)) : CalF P w K mg base ("sure_of", none) 7 ["many", "clauses"] (sp_sure_of K) := by
  have mg_dict : mg "dict" = none := T.free 58
  have mg_sorted : mg "sorted" = none := T.free 69
  obtain ⟨t_PAPER, mg_PAPER⟩ := T.str 78 (x := "PAPER") (z := "paper")
  obtain ⟨fd_solve, b_solve, G_solve, kp_solve⟩ := C_solve
  obtain ⟨fd_solve_up, b_solve_up, G_solve_up, kp_solve_up⟩ := C_solve_up
  obtain ⟨fd_can_hold, b_can_hold, G_can_hold, kp_can_hold⟩ := C_can_hold
  obtain ⟨fd_Search_spread, b_Search_spread, G_Search_spread, kp_Search_spread⟩ := C_Search_spread
  obtain ⟨fd_Search_init, b_Search_init, G_Search_init, kp_Search_init⟩ := C_Search_init
  have mg_solve : mg "solve" = some (.ref (He.ga K "solve")) := T.glo 10
  have mg_solve_up : mg "solve_up" = some (.ref (He.ga K "solve_up")) := T.glo 11
  have mg_can_hold : mg "can_hold" = some (.ref (He.ga K "can_hold")) := T.glo 12
  have mt_Search_spread : Meth K (He.ga K "Search") "spread" (He.ma K (He.ga K "Search") "spread") := T.meth 95
  have mg_Search : mg "Search" = some (.ref (He.ga K "Search")) := T.glo 90
  have M_Search : Mk K (He.ga K "Search") (He.ma K (He.ga K "Search") "__init__") := T.mkr 91
  have cl_Search : Cls K (He.ga K "Search") := T.cls 89
  have no_Search_sure : NoAttr K (He.ga K "Search") "sure" := T.noat 113
  refine calF T (d := d_sure_of) 45 rfl sc_sure_of rfl rfl (fun _ _ _ _ _ _ us hl => match us, hl with | [_, _], _ => rfl) (len_sure_of K) ?_
  intro cdv A outer s H vs Q E hr h
  have hu := hu_of hr
  obtain ⟨v, many, as, rfl, S0, hl, k1, k2⟩ := h
  have lo := S0.lo
  have hi := S0.hi
  have hcl := ask_cl S0
  refine ⟨_, (pss_cons (ps_asg (pe_call G_solve (hr.mono (by decide)) (by rfl) mg_solve kp_solve b_solve .nil pass0 (pa_cons (pv 0) (pa_cons (pv 1) pa_nil))) (pg_tup rfl (pgs_cons (pg_name (i := 2) sc_sure_of.nd rfl (Or.inl rfl)) (pgs_cons (pg_name (i := 3) sc_sure_of.nd rfl (Or.inl rfl)) pgs_nil))))
      (pss_cons (ps_if (pt_cmpR op_eq (pv 2) (pe_glob (v := .str "paper") (by rfl) mg_PAPER ⟨_, rfl⟩) (nomark _)) (pss_one (ps_ret pe_non)) pss_nil)
      (pss_cons (ps_set (i := 4) sc_sure_of.nd rfl (Or.inr rfl) (pe_callTy (call_dictP rfl) (by rfl) mg_dict bt_dict (pa_cons (pe_lc (own := [("one", 5)]) (g := gName 5) (tt := tYes) rfl sc_sure_of.nd (pi_listK (K := K) rfl (pe_call G_solve_up (hr.mono (by decide)) (by rfl) mg_solve_up kp_solve_up b_solve_up .nil pass0 (pa_cons (pv 0) (pa_cons (pv 1) pa_nil)))) (blkOk_by (by kernel_rfl)) (fun _ _ _ _ _ => (pg_name (i := 5) sc_sure_of.nd rfl (Or.inl rfl))) (fun _ _ _ _ _ => pts_nil) (fun _ _ _ _ _ => (pe_tup (pa_cons (pv 5) (pa_cons pe_bl pa_nil))))) pa_nil)))
      (pss_cons (ps_set (i := 6) sc_sure_of.nd rfl (Or.inr rfl) (pe_make M_Search G_Search_init (hr.mono (by decide)) (by rfl) mg_Search b_Search_init .nil pass0 (pa_cons (pv 0) (pa_cons (pv 1) pa_nil))))
      (pss_cons (ps_expr (pe_meth0 (pv 6) cl_Search mt_Search_spread G_Search_spread (hr.mono (by decide)) b_Search_spread .nil pass0))
      (pss_cons (ps_setLc (i := 7) (own := [("one", 5)]) (g := gName 5) rfl sc_sure_of.nd rfl rfl (sw_true rfl rfl rfl (by decide +kernel)) (pi_tupK (K := K) rfl (pv 3)) (blkOk_by (by kernel_rfl)) (fun _ _ _ _ _ => (pg_name (i := 5) sc_sure_of.nd rfl (Or.inl rfl))) (fun _ _ _ _ _ => (pts_one (PW.pt (pw_and (pt_cmp (pc_din hu (pv 5) (pv 4))) (pw_and1 (pt_cmp (pc_dnotin hu (pv 5) (pe_fld2 cl_Search no_Search_sure (pv 6))))))))) (fun _ _ _ _ _ => (pv 5)))
      (pss_cons (ps_setLc (i := 8) (own := [("one", 5)]) (g := gName 5) rfl sc_sure_of.nd rfl rfl (sw_true rfl rfl rfl (by decide +kernel)) (pi_listK (K := K) rfl (pv 7)) (blkOk_by (by kernel_rfl)) (fun _ _ _ _ _ => (pg_name (i := 5) sc_sure_of.nd rfl (Or.inl rfl))) (fun _ _ _ _ _ => (pts_one (pt_not (pt_val (pe_call G_can_hold (hr.mono (by decide)) (by rfl) mg_can_hold kp_can_hold b_can_hold .nil pass0 (pa_cons (pv 0) (pa_cons (pe_tup (pa_starK (K := K) rfl (pv 1) (pa_cons (pe_tup (pa_cons (pe_op op_sub pe_int (pv 5)) pa_nil)) pa_nil))) pa_nil))))))) (fun _ _ _ _ _ => (pv 5)))
      (pss_one (ps_ret (pe_callB cr_sorted2 (by rfl) mg_sorted bt_sorted (pa_cons (pe_lst (pa_starK (K := K) rfl (pe_lc (own := [("one", 5)]) (g := gName 5) rfl sc_sure_of.nd (pi_tupK (K := K) rfl (pv 3)) (blkOk_by (by kernel_rfl)) (fun _ _ _ _ _ => (pg_name (i := 5) sc_sure_of.nd rfl (Or.inl rfl))) (fun _ _ _ _ _ => (pts_one (pt_cmp (pc_din hu (pv 5) (pe_fld2 cl_Search no_Search_sure (pv 6)))))) (fun _ _ _ _ _ => (pv 5))) (pa_starK (K := K) rfl (pv 8) pa_nil))) pa_nil))))))))))), ?_⟩
  refine ⟨_, rfl, _, rfl, v, many, as, rfl, S0, fun H1 t b ln s1 ht hb hln P1 => ?_, fun H1 t b ys s1 ht hb V1 => ?_⟩
  · refine ⟨t, _, rfl, SqT.of ht, rfl, _, _, rfl, _, _, rfl, rfl, ?_⟩
    refine ⟨_, rfl, rfl, _, rfl, iteT ?_⟩
    exact k1 (paper_no hcl P1) H1 s1
  · refine ⟨t, _, rfl, SqT.of ht, rfl, _, _, rfl, _, _, rfl, rfl, ?_⟩
    refine ⟨_, rfl, rfl, _, rfl, iteF ?_⟩
    have hyes := vals_yes hcl V1
    have S1 : SAsk H1 v many as := ⟨S0.at_.imp (s1 _ _) (s1 _ _), S0.cls.mono s1, S0.lo, S0.hi, S0.cl, S0.len⟩
    have ylen : ys.length ≤ 16 := by
      have := congrArg List.length (isVal_iff V1.val)
      rw [List.length_map, nums_len] at this
      omega
    refine ⟨_, rfl, _, rfl, v, many, as, rfl, S1, fun H2 ps s2 P2 => ?_, fun H2 b2 ys2 s2 hb2 V2 => ?_⟩
    · have := paper_no hcl P2 (asOf ys)
      rw [hyes] at this; cases this
    refine ⟨b2, rfl, ⟨_, SqL.of hb2⟩, ?_⟩
    have ylen2 : ys2.length ≤ 16 := by
      have := congrArg List.length (isVal_iff V2.val)
      rw [List.length_map, nums_len] at this
      omega
    refine lcT0 ys2 _ (wkL ys2 V.int) yName (fun n => [.int n, .bl true]) (by omega) (by intro _; rfl) (fun H h => SqL.of (h _ _ hb2)) ?_ ?_
    · intro n hn H3 s3 Qe q
      exact ⟨_, rfl, by show 2 ≤ sizeLine; decide, fun p hp => q p _ (Same.new hp) upd_same⟩
    intro D H3 zs _ s3 h3 hp
    obtain ⟨ps, rfl, hps⟩ := paired_dict (K := K) (f := fun n : Int => (Sum.inl n : Key)) (v := fun _ => V.bl true) hp
    refine ⟨D, ps, _, rfl, SqL.of h3, hps, fun d hd => ?_⟩
    have s4 := Same.new (o := .dK (mergeK [] (ys2.map fun n => ((Sum.inl n : Key), V.bl true)))) hd
    have s04 := s1.trans (s2.trans (s3.trans s4))
    have hd4 := upd_same (H := H3) (a := d) (o := .dK (mergeK [] (ys2.map fun n => ((Sum.inl n : Key), V.bl true))))
    have hb4 := s4 _ _ (s3 _ _ (s2 _ _ hb))
    generalize upd H3 d (.dK (mergeK [] (ys2.map fun n => ((Sum.inl n : Key), V.bl true)))) = H4 at s4 s04 hd4 hb4 ⊢
    have S4 : SAsk H4 v many as := ⟨S0.at_.imp (s04 _ _) (s04 _ _), S0.cls.mono s04, S0.lo, S0.hi, S0.cl, S0.len⟩
    refine ⟨_, rfl, _, rfl, fun x dx hx hdx hn => init_ask S4 hx hdx hn fun H5 A5 t5 G5 O5 => ⟨rfl, ?_⟩⟩
    refine ⟨_, rfl, x, _, _, rfl, G5.ins, rfl, x, _, A5, t5, rfl, G5, O5.iv, O5.pn, by rw [O5.cl]; omega, fun H6 t6 G6 X6 => ?_⟩
    have I6 := X6.iv
    have mk6 : t6.mks = [] := X6.ext.mks.trans O5.mks
    have cl6 : t6.cl = as := X6.ext.cl.trans O5.cl
    have many6 : t6.many = many := X6.ext.many.trans O5.many
    have s46 : Same H4 H6 := G6.same
    -- what the base is sure of is sure
    have sure6 : ∀ l ∈ t6.tr, Sure many (as.map (·.2)) l := fun l hl' => by
      refine ⟨by have := I6.inr l hl'; rwa [many6] at this, fun a ha => ?_⟩
      have := tr_der0 I6 mk6 hl'
      rw [cl6] at this
      exact this.sound (ask_nz S0) ha fun g hg => by cases hg
    -- the values left
    refine ⟨_, rfl, b, rfl, ⟨_, SqT.of (s46 _ _ hb4)⟩, ?_⟩
    refine lcV ys _ (wkT ys V.int) yName (fun y => decide (y ∈ ys2) && !decide (y ∈ t6.tr)) V.int (by omega) (by intro _; rfl) (fun H h => SqT.of (h _ _ (s46 _ _ hb4))) ?_ ?_ ?_
    · intro y hy H7 s7 Qb q
      have G7 := G6.grow s7
      refine ⟨_, rfl, _, rfl, d, _, rfl, DGet.k (k := Sum.inl y) (s7 _ _ (s46 _ _ hd4)), _, rfl, ?_⟩
      rw [isSome_mergeT]
      have q := q _ (Same.refl _)
      cases e : decide (y ∈ ys2) with
      | false =>
        rw [e, Bool.false_and] at q
        exact iteF q
      | true =>
        rw [e, Bool.true_and] at q
        refine iteT ⟨_, rfl, _, rfl, _, _, _, _, rfl, G7.ins, rfl, A5.u, _, rfl, DGet.k (k := Sum.inl y) G7.hu, _, rfl, ?_⟩
        rw [valV_true]; exact q
    · intro y hy H7 _ s7 Qe q
      exact ⟨_, rfl, q _ (Same.refl _)⟩
    intro D7 H7 _ s7 h7
    have G7 := G6.grow s7
    have s47 := s46.trans s7
    generalize hlf : ys.filter (fun y => decide (y ∈ ys2) && !decide (y ∈ t6.tr)) = lf at h7
    have lfm : ∀ y, y ∈ lf ↔ y ∈ ys ∧ y ∈ ys2 ∧ y ∉ t6.tr := fun y => by
      rw [← hlf, List.mem_filter, Bool.and_eq_true, decide_eq_true_eq, Bool.not_eq_true', decide_eq_false_iff_not]
    have lfl : lf.length ≤ 16 := by rw [← hlf]; exact Nat.le_trans (List.length_filter_le _ _) ylen
    refine ⟨_, rfl, D7, rfl, ⟨_, SqL.of h7⟩, ?_⟩
    refine lcV lf _ (wkL lf V.int) yName (fun y => decide (cnt many (as.map (·.2) ++ [[-y]]) = 0)) V.int (by omega) (by intro _; rfl) (fun H h => SqL.of (h _ _ h7)) ?_ ?_ ?_
    · intro y hy H8 s8 Qb q
      have s48 := s47.trans s8
      have s08 := s04.trans s48
      have hyr : InR many y := isVal_nz V1.val ((lfm y).mp hy).1
      refine ⟨_, rfl, _, rfl, v, as.map rf, rfl, ?_, _, rfl, _, _, rfl, rfl, by show 1 ≤ sizeLine; decide, fun e he => ?_⟩
      · rcases S0.at_ with z | z
        · exact .inr (SqL.of (s08 _ _ z))
        · exact .inl (SqT.of (s08 _ _ z))
      refine ⟨?_, fun b8 hb8 => ?_⟩
      · rw [List.length_append, List.length_map]
        exact sz_le (by show as.length + 1 ≤ 100000; omega)
      have g1 := Same.new (o := .tup [.int (0 - y)]) he
      have g2 := Same.new (o := .tup (as.map rf ++ [.ref e])) hb8
      have g12 := g1.trans g2
      have hcl8 : ∀ z ∈ (as ++ [((e, [-y]) : Cl)]).map (·.2), isCl many z = true := fun z hz => by
        rw [List.map_append] at hz
        rcases List.mem_append.mp hz with hz | hz
        · exact hcl z hz
        · rw [List.mem_singleton.mp hz]; exact isCl_one hyr.neg
      have S8 : SAsk (upd (upd H8 e (.tup [.int (0 - y)])) b8 (.tup (as.map rf ++ [.ref e]))) b8 many (as ++ [(e, [-y])]) := by
        refine ⟨.inr (by rw [List.map_append]; exact upd_same), fun z hz => ?_, lo, hi, fun z hz => hcl8 _ (List.mem_map.mpr ⟨z, hz, rfl⟩), by rw [List.length_append]; simp; omega⟩
        rcases List.mem_append.mp hz with hz | hz
        · exact g12 _ _ (s08 _ _ (S0.cls z hz))
        · rw [List.mem_singleton.mp hz]
          have ey : V.int (-y) = V.int (0 - y) := by rw [Int.zero_sub]
          show _ = some (HO.tup [V.int (-y)])
          rw [ey]
          exact g2 _ _ (upd_same (H := H8) (a := e) (o := .tup [.int (0 - y)]))
      have ecs : (as ++ [((e, [-y]) : Cl)]).map (·.2) = as.map (·.2) ++ [[-y]] := by rw [List.map_append]; rfl
      rw [ecs] at hcl8
      refine ⟨b8, many, as ++ [(e, [-y])], rfl, S8, fun H9 ps s9 P9 => ⟨_, rfl, ?_⟩, fun H9 zs s9 V9 => ⟨_, rfl, ?_⟩⟩
      · rw [ecs] at P9
        have h0 := (cnt_zero hcl8).mpr (paper_no hcl8 P9)
        have q := q H9 (g12.trans s9)
        rw [decide_eq_true h0] at q
        exact q
      · rw [ecs] at V9
        have h0 : ¬ cnt many (as.map (·.2) ++ [[-y]]) = 0 := fun z => by
          have := (cnt_zero hcl8).mp z (asOf zs)
          rw [vals_yes hcl8 V9] at this; cases this
        have q := q H9 (g12.trans s9)
        rw [decide_eq_false h0] at q
        exact q
    · intro y hy H8 _ s8 Qe q
      exact ⟨_, rfl, q _ (Same.refl _)⟩
    intro D8 H8 _ s8 h8
    have G8 := G7.grow s8
    have s48 := s47.trans s8
    generalize hmr : lf.filter (fun y => decide (cnt many (as.map (·.2) ++ [[-y]]) = 0)) = mr at h8
    have mrm : ∀ y, y ∈ mr ↔ y ∈ lf ∧ cnt many (as.map (·.2) ++ [[-y]]) = 0 := fun y => by
      rw [← hmr, List.mem_filter, decide_eq_true_eq]
    refine ⟨_, rfl, b, rfl, ⟨_, SqT.of (s48 _ _ hb4)⟩, ?_⟩
    refine lcV ys _ (wkT ys V.int) yName (fun y => decide (y ∈ t6.tr)) V.int (by omega) (by intro _; rfl) (fun H h => SqT.of (h _ _ (s48 _ _ hb4))) ?_ ?_ ?_
    · intro y hy H9 s9 Qb q
      have G9 := G8.grow s9
      refine ⟨_, rfl, _, rfl, _, _, _, _, rfl, G9.ins, rfl, A5.u, _, rfl, DGet.k (k := Sum.inl y) G9.hu, _, rfl, ?_⟩
      rw [valV_true]; exact q _ (Same.refl _)
    · intro y hy H9 _ s9 Qe q
      exact ⟨_, rfl, q _ (Same.refl _)⟩
    intro D9 H9 _ s9 h9
    refine ⟨D9, _, rfl, .inr (SqL.of h9), _, rfl, D8, _, rfl, .inr (SqL.of (s9 _ _ h8)), ?_, fun z hz => ?_⟩
    · rw [List.append_nil, List.length_append, List.length_map, List.length_map]
      have h1 := List.length_filter_le (fun y => decide (y ∈ t6.tr)) ys
      have h2 : mr.length ≤ 16 := by rw [← hmr]; exact Nat.le_trans (List.length_filter_le _ _) lfl
      exact sz_le (by omega)
    rw [List.append_nil, ← List.map_append] at *
    refine ⟨z, _, rfl, upd_same, fun q hq => ?_⟩
    have g1 := Same.new (o := .lst ((ys.filter (fun y => decide (y ∈ t6.tr)) ++ mr).map V.int)) hz
    have g2 := Same.new (o := .lst ((srt (ys.filter (fun y => decide (y ∈ t6.tr)) ++ mr)).map V.int)) hq
    have ynd : ys.Nodup := by
      have hn : (ys.map ab).Nodup := by rw [isVal_iff V1.val]; exact nums_nodup _
      exact List.Pairwise.of_map (S := (· ≠ ·)) ab (fun a b h e => h (by rw [e])) hn
    have nd : (ys.filter (fun y => decide (y ∈ t6.tr)) ++ mr).Nodup := by
      rw [List.nodup_append]
      refine ⟨ynd.filter _, by rw [← hmr, ← hlf]; exact (ynd.filter _).filter _, fun a ha b hb e => ?_⟩
      have h1 := of_decide_eq_true (List.mem_filter.mp ha).2
      have h2 := ((lfm b).mp ((mrm b).mp hb).1).2.2
      exact h2 (e ▸ h1)
    refine k2 _ q (srt (ys.filter (fun y => decide (y ∈ t6.tr)) ++ mr)) (s04.trans (s48.trans (s9.trans (g1.trans g2)))) upd_same ?_ ⟨_, hyes⟩ fun l => ?_
    · exact ((srt_pw _).and ((srt_perm _).nodup_iff.mpr nd)).imp fun h => by omega
    · rw [(srt_perm _).mem_iff, List.mem_append, List.mem_filter, decide_eq_true_eq, mrm, lfm]
      constructor
      · rintro (⟨h1, h2⟩ | ⟨⟨h1, h2, h3⟩, h4⟩)
        · exact sure6 l h2
        · have hr := isVal_nz V1.val h1
          refine ⟨hr, fun a ha => ?_⟩
          have hcl8 : ∀ c ∈ as.map (·.2) ++ [[-l]], isCl many c = true := fun c hc => by
            rcases List.mem_append.mp hc with hc | hc
            · exact hcl c hc
            · rw [List.mem_singleton.mp hc]; exact isCl_one hr.neg
          have := (cnt_zero hcl8).mp h4 a
          rw [hold_neg hr.1, ha, Bool.true_and] at this
          simpa using this
      · rintro ⟨hr, hs⟩
        have i1 : l ∈ ys := by
          have := hs _ hyes
          rw [lit_asOf V1.val hr] at this
          exact of_decide_eq_true this
        have i2 : l ∈ ys2 := by
          have := hs _ (vals_yes hcl V2)
          rw [lit_asOf V2.val hr] at this
          exact of_decide_eq_true this
        by_cases i3 : l ∈ t6.tr
        · exact .inl ⟨i1, i3⟩
        · refine .inr ⟨⟨i1, i2, i3⟩, (cnt_zero ?_).mpr fun a => ?_⟩
          · intro c hc
            rcases List.mem_append.mp hc with hc | hc
            · exact hcl c hc
            · rw [List.mem_singleton.mp hc]; exact isCl_one hr.neg
          · rw [hold_neg hr.1]
            cases e : hold (as.map (·.2)) a with
            | false => rfl
            | true => rw [hs a e]; rfl
theorem sc_sure_literals : FnScope ["bundle", "found"] ["bundle"] (defScope s_sure_literals) := ⟨rfl, rfl, rfl, by decide +kernel, rfl, by decide +kernel, by decide +kernel⟩
theorem ok_sure_literals (T : Tx K mg) (C_check_bundle : CalF P w K mg base ("check_bundle", none) 4 ["bundle"] (sp_check_bundle K)) (C_sure_of : CalF P w K mg base ("sure_of", none) 7 ["many", "clauses"] (sp_sure_of K)) : CalF P w K mg base ("sure_literals", none) 8 ["bundle"] (sp_sure_literals K) := by
  have mg_tuple : mg "tuple" = none := T.free 73
  obtain ⟨fd_check_bundle, b_check_bundle, G_check_bundle, kp_check_bundle⟩ := C_check_bundle
  obtain ⟨fd_sure_of, b_sure_of, G_sure_of, kp_sure_of⟩ := C_sure_of
  have mg_check_bundle : mg "check_bundle" = some (.ref (He.ga K "check_bundle")) := T.glo 5
  have mg_sure_of : mg "sure_of" = some (.ref (He.ga K "sure_of")) := T.glo 29
  refine calF T (d := d_sure_literals) 46 rfl sc_sure_literals rfl rfl (fun _ _ _ _ _ _ us hl => match us, hl with | [_], _ => rfl) (len_sure_literals K) ?_
  intro cdv A outer s H vs Q E hr h
  have hu := hu_of hr
  obtain ⟨v, many, as, rfl, B, hl, k1, k2⟩ := h
  refine ⟨_, (pss_cons (ps_expr (pe_call G_check_bundle (hr.mono (by decide)) (by rfl) mg_check_bundle kp_check_bundle b_check_bundle .nil pass0 (pa_cons (pv 0) pa_nil)))
      (pss_cons (ps_set (i := 1) sc_sure_literals.nd rfl (Or.inl rfl) (pe_call G_sure_of (hr.mono (by decide)) (by rfl) mg_sure_of kp_sure_of b_sure_of .nil pass0 (pa_cons (pe_ix ix_tup2 (pv 0) pe_int (fun _ _ => rfl)) (pa_cons (pe_ix ix_tup2 (pv 0) pe_int (fun _ _ => rfl)) pa_nil))))
      (pss_one (ps_ret (pe_ifExp (pt_cmpR op_isN (pv 1) pe_non (nomark _)) pe_non (pe_callTy call_tuple2 (by rfl) mg_tuple bt_tuple (pa_cons (pv 1) pa_nil))))))), ?_⟩
  refine ⟨_, rfl, v, many, as, rfl, B.bd, B.ok, fun H1 s1 => ?_⟩
  have B1 := B.mono s1
  obtain ⟨x, b, rfl, hx, hb⟩ := B1.bd.at_
  refine ⟨_, rfl, _, _, _, _, rfl, rfl, hx, rfl, _, rfl, _, _, _, _, rfl, rfl, hx, rfl, b, many, as, rfl, ⟨.inr hb, B1.bd.cls, B.lo, B.hi, B.cl, B.len⟩, hl, fun hno H2 s2 => ?_, fun H2 q L s2 hq hpw hex hL => ?_⟩
  · exact ⟨_, rfl, rfl, _, rfl, iteT (k1 hno H2 (s1.trans s2))⟩
  · refine ⟨_, rfl, rfl, _, rfl, iteF ⟨_, rfl, q, _, rfl, hq, fun t ht => ?_⟩⟩
    exact k2 _ t L (s1.trans (s2.trans (Same.new ht))) upd_same hpw hex hL
end
end Nt
set_option maxRecDepth 100000
set_option maxHeartbeats 1000000
/-! NtT: the units of the class that traces (printed by gentr.py from NtU.lt). -/
namespace Nt
open PySem PySem.Spec PyProof.Rows L2
/-- Units at p: the clauses as; H0: what is not its own -/
structure TAt (K : PySem.W.Frag) (H0 H : Hp) (p : Addr) (many : Int) (as : List Cl) : Prop where
  same : Same H0 H
  cls : CLs H0 as
  lo : 0 ≤ many
  hi : many ≤ 30
  cl : ∀ x ∈ as, isCl many x.2 = true
  len : as.length ≤ 100000
  own : ∃ dx a b c kvs, H0 p = none ∧ H0 a = none ∧ H0 b = none ∧ H0 c = none ∧ a ≠ c ∧ H p = some (.ins (He.ga K "Traced") dx [("clauses", .ref a), ("by", .ref b), ("single", .ref c)]) ∧
    H a = some (.lst (as.map rf)) ∧ H c = some (.lst ((sgP as).map fun x => .int x.1)) ∧ ByAt H0 H b [a, c] kvs (as.map (·.2))
theorem TAt.grow {K : PySem.W.Frag} {H0 H H' : Hp} {p : Addr} {many : Int} {as : List Cl} (U : TAt K H0 H p many as) (s : Same H H') : TAt K H0 H' p many as := by
  obtain ⟨dx, a, b, c, kvs, h1, h2, h3, h4, h5, h6, h7, h8, h9⟩ := U.own
  exact ⟨U.same.trans s, U.cls, U.lo, U.hi, U.cl, U.len, dx, a, b, c, kvs, h1, h2, h3, h4, h5, s _ _ h6, s _ _ h7, s _ _ h8, h9.same s⟩
def sp_Traced_left_of (K : PySem.W.Frag) : Sp := fun vs H Q _ => ∃ (p : V) (c d : Addr) (ns S : List Int) (kvs : List (Key × V)), vs = [p, .ref c, .ref d] ∧ H c = some (.tup (ns.map V.int)) ∧ ns.length ≤ 100 ∧ H d = some (.dK kvs) ∧ (∀ l : Int, (valV kvs (.inl l)).isSome = decide (l ∈ S)) ∧
  (leftOf S ns = none → ∀ H', Same H H' → Q .non H') ∧ ∀ r, leftOf S ns = some r → ∀ H' q, Same H H' → H q = none → H' q = some (.lst (r.map V.int)) → Q (.ref q) H'
theorem len_Traced_left_of (K : PySem.W.Frag) : ∀ vs H Q E, sp_Traced_left_of K vs H Q E → vs.length = 3 := by
  rintro vs H Q E ⟨p, c, d, ns, S, kvs, rfl, _⟩; rfl
def sp_Traced_put (K : PySem.W.Frag) : Sp := fun vs H Q _ => ∃ (p : Addr) (H0 : Hp) (many : Int) (as : List Cl) (c : Cl), vs = [.ref p, rf c] ∧ TAt K H0 H p many as ∧ H0 c.1 = some (.tup (c.2.map V.int)) ∧ isCl many c.2 = true ∧ as.length < 100000 ∧
  ∀ H', TAt K H0 H' p many (as ++ [c]) → Q .non H'
theorem len_Traced_put (K : PySem.W.Frag) : ∀ vs H Q E, sp_Traced_put K vs H Q E → vs.length = 2 := by
  rintro vs H Q E ⟨p, H0, many, as, c, rfl, _⟩; rfl
def sp_Traced_init (K : PySem.W.Frag) : Sp := fun vs H Q _ => ∃ (p v : Addr) (dx : Addr) (H0 : Hp) (many : Int) (as : List Cl), vs = [.ref p, .ref v] ∧ Same H0 H ∧ H0 p = none ∧ H p = some (.ins (He.ga K "Traced") dx []) ∧ (H0 v = some (.lst (as.map rf)) ∨ H0 v = some (.tup (as.map rf))) ∧ CLs H0 as ∧ 0 ≤ many ∧ many ≤ 30 ∧ (∀ x ∈ as, isCl many x.2 = true) ∧ as.length ≤ 100000 ∧
  ∀ H', TAt K H0 H' p many as → Q .non H'
theorem len_Traced_init (K : PySem.W.Frag) : ∀ vs H Q E, sp_Traced_init K vs H Q E → vs.length = 2 := by
  rintro vs H Q E ⟨p, v, dx, H0, many, as, rfl, _⟩; rfl
section
variable {P : Program} {w : World} {K : PySem.W.Frag} {mg : Str → Option Value} {base : Heap}
theorem sc_Traced_left_of : FnScope ["self", "clause", "sure", "one"] ["self", "clause", "sure"] (defScope s_Traced_left_of) := ⟨rfl, rfl, rfl, by decide +kernel, rfl, by decide +kernel, by decide +kernel⟩
theorem ok_Traced_left_of (T : Tx K mg)  : CalF P w K mg base ("Traced", some "left_of") 1 ["self", "clause", "sure"] (sp_Traced_left_of K) := by
  have mg_any : mg "any" = none := T.free 56
  refine calF T (d := d_Traced_left_of) 53 rfl sc_Traced_left_of rfl rfl (fun _ _ _ _ _ _ us hl => match us, hl with | [_, _, _], _ => rfl) (len_Traced_left_of K) ?_
  intro cdv A outer s H vs Q E hr h
  have hu := hu_of hr
  obtain ⟨p, c, d, ns, S, kvs, rfl, hc, hl, hd, hS, k1, k2⟩ := h
  refine ⟨_, (pss_cons (ps_if (pt_val (pe_callB (cr_any2 rfl) (by rfl) mg_any bt_any (pa_cons (pe_lc (own := [("one", 3)]) (g := gName 3) (tt := tYes) rfl sc_Traced_left_of.nd (pi_tupK (K := K) rfl (pv 1)) (blkOk_by (by kernel_rfl)) (fun _ _ _ _ _ => (pg_name (i := 3) sc_Traced_left_of.nd rfl (Or.inl rfl))) (fun _ _ _ _ _ => pts_nil) (fun _ _ _ _ _ => (pe_cmp (pc_din hu (pv 3) (pv 2))))) pa_nil))) (pss_one (ps_ret pe_non)) pss_nil)
      (pss_one (ps_ret (pe_lc (own := [("one", 3)]) (g := gName 3) rfl sc_Traced_left_of.nd (pi_tupK (K := K) rfl (pv 1)) (blkOk_by (by kernel_rfl)) (fun _ _ _ _ _ => (pg_name (i := 3) sc_Traced_left_of.nd rfl (Or.inl rfl))) (fun _ _ _ _ _ => (pts_one (pt_cmp (pc_dnotin hu (pe_op op_sub pe_int (pv 3)) (pv 2))))) (fun _ _ _ _ _ => (pv 3)))))), ?_⟩
  refine ⟨_, rfl, c, rfl, ⟨_, SqT.of hc⟩, ?_⟩
  refine lcV0 ns _ (wkT ns V.int) yName (fun l => .bl (decide (l ∈ S))) (by omega) (by intro _; rfl) (fun H h => SqT.of (h _ _ hc)) ?_ ?_
  · intro l hl H1 s1 Qe q
    refine ⟨_, rfl, _, rfl, d, _, rfl, DGet.k (k := Sum.inl l) (s1 _ _ hd), ?_⟩
    rw [hS]
    exact q _ (Same.refl _)
  · intro D H1 _ s1 h1
    refine ⟨_, _, _, _, rfl, h1, _, rfl, ?_⟩
    unfold leftOf at k1 k2
    cases e : ns.any fun l => decide (l ∈ S) with
    | true =>
      rw [e] at k1
      exact iteT (k1 rfl H1 s1)
    | false =>
      rw [e] at k2
      refine iteF ?_
      refine ⟨_, rfl, c, rfl, ⟨_, SqT.of (s1 _ _ hc)⟩, ?_⟩
      refine lcV ns _ (wkT ns V.int) yName (fun l => decide (-l ∉ S)) V.int (by omega) (by intro _; rfl) (fun H h => SqT.of (h _ _ (s1 _ _ hc))) ?_ ?_ ?_
      · intro l hl H2 s2 Qb q
        refine ⟨_, rfl, _, _, rfl, rfl, _, rfl, d, _, rfl, DGet.k (k := Sum.inl (0 - l)) (s2 _ _ (s1 _ _ hd)), ?_⟩
        rw [hS, Int.zero_sub]
        have q := q _ (Same.refl _)
        by_cases e2 : -l ∈ S
        · rw [decide_eq_false (fun z => z e2)] at q
          rw [decide_eq_true e2]; exact ⟨_, rfl, q⟩
        · rw [decide_eq_true e2] at q
          rw [decide_eq_false e2]; exact ⟨_, rfl, q⟩
      · intro l hl H2 _ s2 Qe q
        exact ⟨_, rfl, q _ (Same.refl _)⟩
      · intro D2 H2 n2 s2 h2
        exact k2 _ rfl H2 D2 (s1.trans s2) (s1.free n2) h2
theorem sc_Traced_put : FnScope ["self", "clause", "place", "one"] ["self", "clause"] (defScope s_Traced_put) := ⟨rfl, rfl, rfl, by decide +kernel, rfl, by decide +kernel, by decide +kernel⟩
theorem ok_Traced_put (T : Tx K mg)  : CalF P w K mg base ("Traced", some "put") 1 ["self", "clause"] (sp_Traced_put K) := by
  have mg_len : mg "len" = none := T.free 62
  have cl_Traced : Cls K (He.ga K "Traced") := T.cls 116
  have no_Traced_clauses : NoAttr K (He.ga K "Traced") "clauses" := T.noat 124
  have no_Traced_single : NoAttr K (He.ga K "Traced") "single" := T.noat 125
  have no_Traced_by : NoAttr K (He.ga K "Traced") "by" := T.noat 123
  refine calF T (d := d_Traced_put) 51 rfl sc_Traced_put rfl rfl (fun _ _ _ _ _ _ us hl => match us, hl with | [_, _], _ => rfl) (len_Traced_put K) ?_
  intro cdv A outer s H vs Q E hr h
  have hu := hu_of hr
  obtain ⟨p, H0, many, as, c, rfl, U, hcc, hcl, hl, k⟩ := h
  obtain ⟨dx, a, b, cc, kvs, n1, n2, n3, n4, nac, hp, ha, hc, B⟩ := U.own
  refine ⟨_, (pss_cons (ps_set (i := 2) sc_Traced_put.nd rfl (Or.inl rfl) (pe_callB call_len2 (by rfl) mg_len bt_len (pa_cons (pe_fld2 cl_Traced no_Traced_clauses (pv 0)) pa_nil)))
      (pss_cons (ps_expr (pe_bm PySem.F.plainAttrs_list PySem.F.slot_list_append PySem.F.type_list_append mt_append (pe_fld2 cl_Traced no_Traced_clauses (pv 0)) (pa_cons (pv 1) pa_nil)))
      (pss_cons (ps_for PassesOwn.never rfl (pi_tupK (K := K) rfl (pv 1)) (pg_name (i := 3) sc_Traced_put.nd rfl (Or.inl rfl)) (pss_one (ps_expr (pe_bm PySem.F.plainAttrs_list PySem.F.slot_list_append PySem.F.type_list_append mt_append (pe_dsetd (pe_fld2 cl_Traced no_Traced_by (pv 0)) (pv 3) (pe_lst pa_nil) ⟨rfl, rfl, rfl, rfl⟩) (pa_cons (pv 2) pa_nil)))))
      (pss_one (ps_if (pt_cmpR op_lt (pe_callB call_len2 (by rfl) mg_len bt_len (pa_cons (pv 1) pa_nil)) pe_int (nomark _)) (pss_one (ps_expr (pe_bm PySem.F.plainAttrs_list PySem.F.slot_list_append PySem.F.type_list_append mt_append (pe_fld2 cl_Traced no_Traced_single (pv 0)) (pa_cons (pv 2) pa_nil)))) pss_nil))))), ?_⟩
  refine ⟨_, rfl, _, _, _, _, rfl, hp, rfl, a, _, rfl, .inl ha, ?_⟩
  have hpa : p ≠ a := ne_of hp ha (by intro z; cases z)
  have hba : b ≠ a := ne_of B.at_ ha (by intro z; cases z)
  refine ⟨_, rfl, _, _, _, _, rfl, hp, rfl, .inl ⟨rfl, _, SqL.of ha⟩, _, rfl, a, _, _, rfl, rfl, ha, by rw [List.length_map]; exact sz_lt hl, ?_⟩
  have S1 : Same H0 (upd H a (.lst (as.map rf ++ [rf c]))) := Same.mut U.same n2
  have B1 : ByAt H0 (upd H a (.lst (as.map rf ++ [rf c]))) b [a, cc] kvs (as.map (·.2) ++ [[]]) := B.open_.keep (upd_ne hba) fun q xs h1 h2 h3 => upd_ne fun z => h2 (by rw [z]; simp)
  refine ⟨_, rfl, c.1, rfl, ⟨_, SqT.of (S1 _ _ hcc)⟩, ?_⟩
  have hnd := pw_nodup (isCl_iff.mp hcl).2
  have hlc : c.2.length ≤ 61 := Nat.le_trans (isCl_len U.lo hcl) (by have := U.hi; omega)
  refine forA c.2 (fun σ l => σ.set 3 (some (.int l))) (wkT c.2 V.int) (fun σ => yName) (fun don σ H2 => ∃ kvs x, σ = [some (.ref p), some (rf c), some (.int as.length), x] ∧ Same H0 H2 ∧ H2 p = some (.ins (He.ga K "Traced") dx [("clauses", .ref a), ("by", .ref b), ("single", .ref cc)]) ∧
    H2 a = some (.lst (as.map rf ++ [rf c])) ∧ H2 cc = some (.lst ((sgP as).map fun x => .int x.1)) ∧ ByAt H0 H2 b [a, cc] kvs (as.map (·.2) ++ [don])) ?_ ?_ ?_ ?_
  · exact ⟨kvs, none, by rw [List.length_map]; rfl, S1, by rw [upd_ne hpa]; exact hp, upd_same, by rw [upd_ne nac.symm]; exact hc, B1⟩
  · rintro l σ H2 ⟨_, _, _, s2, _⟩
    exact SqT.of (s2 _ _ hcc)
  · rintro l x r σ H2 H3 e ⟨kvs2, y, rfl, s2, hp2, ha2, hc2, B2⟩ s3
    have hx : x ∉ l := by
      rw [e, List.nodup_append] at hnd
      exact fun z => hnd.2.2 x z x (by simp) rfl
    have hbl : kvs2.length < sizeLine := by
      have h1 := B2.len
      have h2 : ((as.map (·.2) ++ [l]).map List.length).sum ≤ 61 * (as.map (·.2) ++ [l]).length := sum_len fun z hz => by
        rcases List.mem_append.mp hz with hz | hz
        · obtain ⟨w, hw, rfl⟩ := List.mem_map.mp hz
          exact Nat.le_trans (isCl_len U.lo (U.cl w hw)) (by have := U.hi; omega)
        · rw [List.mem_singleton.mp hz]
          rw [e, List.length_append] at hlc; omega
      simp only [List.length_append, List.length_map, List.length_cons, List.length_nil] at h2
      have : sizeLine = 16777216 := rfl
      omega
    refine ⟨_, rfl, _, _, _, _, rfl, s3 _ _ hp2, rfl, b, rfl, .inl ⟨_, .inl (s3 _ _ B2.at_)⟩, _, rfl, Nat.zero_le _, fun d hd => ?_⟩
    have s3d : Same H2 (upd H3 d (.lst [])) := s3.trans (Same.new hd)
    have S0 : Same H0 (upd H3 d (.lst [])) := s2.trans s3d
    refine ⟨kvs2, .inl x, s3d _ _ B2.at_, rfl, hbl, fun v hv => ?_, fun hn => ?_⟩
    · obtain ⟨q, xs, rfl, hq, hql, hqe, hq0, hB⟩ := B2.old hx hv
      have hpq : p ≠ q := ne_of hp2 hq (by intro z; cases z)
      have haq : a ≠ q := fun z => hqe (by rw [← z]; simp)
      have hcq : cc ≠ q := fun z => hqe (by rw [← z]; simp)
      refine ⟨.inl ⟨rfl, _, SqL.of (s3d _ _ hq)⟩, _, rfl, q, _, _, rfl, rfl, s3d _ _ hq, (by rw [List.length_map] at hql; have : sizeLine = 16777216 := rfl; omega), ?_⟩
      refine ⟨kvs2, _, rfl, Same.mut S0 hq0, by rw [upd_ne hpq]; exact s3d _ _ hp2, by rw [upd_ne haq]; exact s3d _ _ ha2, by rw [upd_ne hcq]; exact s3d _ _ hc2, ?_⟩
      have := hB _ s3d
      rw [List.length_map] at this
      exact this
    · have hd2 : H2 d = none := s3.free hd
      have hd0 : H0 d = none := s2.free hd2
      have hpd : p ≠ d := ne_of_none hp2 hd2
      have had : a ≠ d := ne_of_none ha2 hd2
      have hcd : cc ≠ d := ne_of_none hc2 hd2
      have hpb : p ≠ b := ne_of hp2 B2.at_ (by intro z; cases z)
      have hab : a ≠ b := ne_of ha2 B2.at_ (by intro z; cases z)
      have hcb : cc ≠ b := ne_of hc2 B2.at_ (by intro z; cases z)
      have hdb : d ≠ b := (ne_of_none B2.at_ hd2).symm
      have h1 : upd (upd H3 d (.lst [])) b (.dK (putK kvs2 (.inl x) (.ref d))) d = some (.lst []) := by rw [upd_ne hdb, upd_same]
      refine ⟨.inl ⟨rfl, _, SqL.of h1⟩, _, rfl, d, _, _, rfl, rfl, h1, by decide, ?_⟩
      refine ⟨putK kvs2 (.inl x) (.ref d), _, rfl, Same.mut (Same.mut S0 n3) hd0, ?_, ?_, ?_, ?_⟩
      · rw [upd_ne hpd, upd_ne hpb]; exact s3d _ _ hp2
      · rw [upd_ne had, upd_ne hab]; exact s3d _ _ ha2
      · rw [upd_ne hcd, upd_ne hcb]; exact s3d _ _ hc2
      · have := B2.new hx hn hd2 hd0 (fun z => (List.mem_cons.mp z).elim (fun z => had z.symm) fun z => hcd (List.mem_singleton.mp z).symm) s3d
        rw [List.length_map] at this
        exact this
  · rintro σ H2 ⟨kvs2, y, rfl, s2, hp2, ha2, hc2, B2⟩
    have fin : ∀ H3, Same H0 H3 → H3 p = some (.ins (He.ga K "Traced") dx [("clauses", .ref a), ("by", .ref b), ("single", .ref cc)]) → H3 a = some (.lst ((as ++ [c]).map rf)) → H3 cc = some (.lst ((sgP (as ++ [c])).map fun x => .int x.1)) → ByAt H0 H3 b [a, cc] kvs2 ((as ++ [c]).map (·.2)) → Q .non H3 := by
      intro H3 s h1 h2 h3 h4
      refine k H3 ⟨s, fun x hx => ?_, U.lo, U.hi, fun x hx => ?_, by simp; omega, dx, a, b, cc, kvs2, n1, n2, n3, n4, nac, h1, h2, h3, h4⟩
      · rcases List.mem_append.mp hx with hx | hx
        · exact U.cls x hx
        · rw [List.mem_singleton.mp hx]; exact hcc
      · rcases List.mem_append.mp hx with hx | hx
        · exact U.cl x hx
        · rw [List.mem_singleton.mp hx]; exact hcl
    have eq : ∀ ys : List (Int × Cl), (ys.map fun x => V.int x.1) = (ys.map (·.1)).map V.int := fun ys => by rw [List.map_map]; rfl
    refine ⟨_, rfl, c.1, _, rfl, .inr (s2 _ _ hcc), _, _, rfl, rfl, _, rfl, ?_⟩
    refine ite2 (fun h => ?_) (fun h => ?_)
    · have h := of_decide_eq_true h
      rw [List.length_map] at h
      have h' : c.2.length < 2 := by omega
      refine ⟨_, rfl, _, _, _, _, rfl, hp2, rfl, .inl ⟨rfl, _, SqL.of hc2⟩, _, rfl, cc, _, _, rfl, rfl, hc2, by rw [List.length_map]; exact sz_lt (Nat.lt_of_le_of_lt (sgP_len as) hl), ?_⟩
      refine fin _ (Same.mut s2 n4) ?_ ?_ ?_ ?_
      · rw [upd_ne (ne_of hp2 hc2 (by intro z; cases z))]; exact hp2
      · rw [upd_ne nac, ha2, List.map_append]; rfl
      · rw [upd_same, eq, eq, sgP_snoc, if_pos h', List.map_append]; rfl
      · rw [List.map_append]
        exact B2.keep (upd_ne (ne_of B2.at_ hc2 (by intro z; cases z))) fun q xs h1 h2 h3 => upd_ne fun z => h2 (by rw [z]; simp)
    · have h' : ¬ c.2.length < 2 := fun z => h (decide_eq_true (by rw [List.length_map]; omega))
      refine fin _ s2 hp2 ?_ ?_ ?_
      · rw [ha2, List.map_append]; rfl
      · rw [hc2, eq, eq, sgP_snoc, if_neg h', List.append_nil]
      · rw [List.map_append]; exact B2
theorem sc_Traced_init : FnScope ["self", "clauses", "clause"] ["self", "clauses"] (defScope s_Traced_init) := ⟨rfl, rfl, rfl, by decide +kernel, rfl, by decide +kernel, by decide +kernel⟩
theorem ok_Traced_init (T : Tx K mg) (C_Traced_put : CalF P w K mg base ("Traced", some "put") 1 ["self", "clause"] (sp_Traced_put K)) : CalF P w K mg base ("Traced", some "__init__") 2 ["self", "clauses"] (sp_Traced_init K) := by
  obtain ⟨fd_Traced_put, b_Traced_put, G_Traced_put, kp_Traced_put⟩ := C_Traced_put
  have mt_Traced_put : Meth K (He.ga K "Traced") "put" (He.ma K (He.ga K "Traced") "put") := T.meth 120
  have cl_Traced : Cls K (He.ga K "Traced") := T.cls 116
  have no_Traced_clauses : NoAttr K (He.ga K "Traced") "clauses" := T.noat 124
  have no_Traced_by : NoAttr K (He.ga K "Traced") "by" := T.noat 123
  have no_Traced_single : NoAttr K (He.ga K "Traced") "single" := T.noat 125
  refine calF T (d := d_Traced_init) 50 rfl sc_Traced_init rfl rfl (fun _ _ _ _ _ _ us hl => match us, hl with | [_, _], _ => rfl) (len_Traced_init K) ?_
  intro cdv A outer s H vs Q E hr h
  have hu := hu_of hr
  obtain ⟨p, v, dx, H0, many, as, rfl, S0, n0, hp, hv, hcls, lo, hi, hcl, hl, k⟩ := h
  refine ⟨_, (pss_cons (ps_asg (pe_tup (pa_cons (pe_lst pa_nil) (pa_cons pe_dnewK (pa_cons (pe_lst pa_nil) pa_nil)))) (pg_tup rfl (pgs_cons (pg_fld2 cl_Traced no_Traced_clauses (pv 0)) (pgs_cons (pg_fld2 cl_Traced no_Traced_by (pv 0)) (pgs_cons (pg_fld2 cl_Traced no_Traced_single (pv 0)) pgs_nil)))))
      (pss_one (ps_for PassesOwn.never rfl (pi_seqK (K := K) rfl (pv 1)) (pg_name (i := 2) sc_Traced_init.nd rfl (Or.inl rfl)) (pss_one (ps_expr (pe_meth (pv 0) cl_Traced mt_Traced_put G_Traced_put (hr.mono (by decide)) b_Traced_put .nil pass0 (pa_cons (pv 2) pa_nil))))))), ?_⟩
  have hv1 : H v = some (.lst (as.map rf)) ∨ H v = some (.tup (as.map rf)) := hv.imp (S0 _ _) (S0 _ _)
  refine ⟨Nat.zero_le _, fun a ha0 b hb0 => ⟨Nat.zero_le _, fun c hc0 => ⟨by show 3 ≤ sizeLine; decide, fun t ht0 => ?_⟩⟩⟩
  have sa := Same.new (o := .lst []) ha0
  have sb := Same.new (o := .dK []) hb0
  have sc := Same.new (o := .lst []) hc0
  have st := Same.new (o := .tup [.ref a, .ref b, .ref c]) ht0
  have sct := sc.trans st
  have sbct := sb.trans sct
  have sall := sa.trans sbct
  have h1p := sall _ _ hp
  have h1a := sbct _ _ (upd_same (H := H) (a := a) (o := .lst []))
  have h1b := sct _ _ (upd_same (a := b) (o := .dK []))
  have h1c := st _ _ (upd_same (a := c) (o := .lst []))
  have hap := ne_of h1a h1p (by intro z; cases z)
  have hbp := ne_of h1b h1p (by intro z; cases z)
  have hcp := ne_of h1c h1p (by intro z; cases z)
  have hac : a ≠ c := ne_of_none (sb _ _ (upd_same (H := H) (a := a) (o := .lst []))) hc0
  have na : H0 a = none := S0.free ha0
  have nb : H0 b = none := (S0.trans sa).free hb0
  have nc : H0 c = none := ((S0.trans sa).trans sb).free hc0
  refine ⟨t, _, rfl, SqT.of upd_same, rfl, _, _, rfl, ⟨_, rfl, p, dx, _, rfl, h1p, by decide, _, _, rfl, ⟨_, rfl, p, dx, _, rfl, upd_same, (by show 1 < 1000; decide), _, _, rfl, ⟨_, rfl, p, dx, _, rfl, upd_same, (by show 2 < 1000; decide), rfl, ?_⟩⟩⟩⟩
  have SF := Same.mut (o := .ins (He.ga K "Traced") dx (putF "single" (V.ref c) (putF "by" (V.ref b) (putF "clauses" (V.ref a) [])))) (Same.mut (o := .ins (He.ga K "Traced") dx (putF "by" (V.ref b) (putF "clauses" (V.ref a) []))) (Same.mut (o := .ins (He.ga K "Traced") dx (putF "clauses" (V.ref a) [])) (S0.trans sall) n0) n0) n0
  have hU : TAt K H0 (upd (upd (upd (upd (upd (upd (upd H a (.lst [])) b (.dK [])) c (.lst [])) t (.tup [.ref a, .ref b, .ref c])) p (.ins (He.ga K "Traced") dx (putF "clauses" (V.ref a) []))) p (.ins (He.ga K "Traced") dx (putF "by" (V.ref b) (putF "clauses" (V.ref a) [])))) p (.ins (He.ga K "Traced") dx (putF "single" (V.ref c) (putF "by" (V.ref b) (putF "clauses" (V.ref a) []))))) p many [] := by
    refine ⟨SF, fun x hx => (by cases hx), lo, hi, fun x hx => (by cases hx), Nat.zero_le _, dx, a, b, c, [], n0, na, nb, nc, hac, upd_same, ?_, ?_, .start ?_⟩
    · rw [upd_ne hap, upd_ne hap, upd_ne hap]; exact h1a
    · rw [upd_ne hcp, upd_ne hcp, upd_ne hcp]; exact h1c
    · rw [upd_ne hbp, upd_ne hbp, upd_ne hbp]; exact h1b
  have step : ∀ (J : It) (G : Hp → Prop) (w0 : Walk J as.length G (YN as rf)), (∀ H2, Same H0 H2 → G H2) → ForW J (gName 2) (tDrop (tMeth (He.ga K "Traced") "put" (sp_Traced_put K) [] E0 (tVar 0) (tCons (tVar 2) tNil))) { nx := fun x H' => Q .non H', rt := Q } [some (.ref p), some (.ref v), none]
      (upd (upd (upd (upd (upd (upd (upd H a (.lst [])) b (.dK [])) c (.lst [])) t (.tup [.ref a, .ref b, .ref c])) p (.ins (He.ga K "Traced") dx (putF "clauses" (V.ref a) []))) p (.ins (He.ga K "Traced") dx (putF "by" (V.ref b) (putF "clauses" (V.ref a) [])))) p (.ins (He.ga K "Traced") dx (putF "single" (V.ref c) (putF "by" (V.ref b) (putF "clauses" (V.ref a) []))))) := by
    intro J G w0 hG
    refine forA as (fun σ x => σ.set 2 (some (rf x))) w0 (fun σ => yName) (fun don σ H2 => ∃ x, σ = [some (.ref p), some (.ref v), x] ∧ TAt K H0 H2 p many don) ⟨none, rfl, hU⟩ (fun l σ H2 ⟨x, _, U⟩ => hG _ U.same) ?_ ?_
    · rintro l x r σ H2 H3 e ⟨y, rfl, U⟩ s3
      have U3 := U.grow s3
      obtain ⟨dx', a', b', c', kvs', m1, m2, m3, m4, m5, m6, m7⟩ := U3.own
      have hx : x ∈ as := by rw [e]; simp
      refine ⟨_, rfl, p, _, _, rfl, m6, rfl, _, rfl, p, H0, many, l, x, rfl, U3, hcls x hx, hcl x hx, ?_, fun H4 U4 => ⟨_, rfl, U4⟩⟩
      rw [e, List.length_append, List.length_cons] at hl; omega
    · rintro σ H2 ⟨x, rfl, U⟩
      exact k H2 U
  rcases hv with hv | hv
  · exact .inl ⟨_, rfl, v, rfl, ⟨_, SqL.of (SF _ _ hv)⟩, step _ _ (wkL as rf) fun H2 s => SqL.of (s _ _ hv)⟩
  · exact .inr ⟨_, rfl, v, rfl, ⟨_, SqT.of (SF _ _ hv)⟩, step _ _ (wkT as rf) fun H2 s => SqT.of (s _ _ hv)⟩
end
end Nt
set_option maxRecDepth 100000
set_option maxHeartbeats 1000000
/-! NtT1: clauses that meet, rows of units, chains: plain. -/
namespace Nt
open PySem PySem.Spec PyProof.Rows L2
def contr (a b : List Int) : List Int := a.filter fun l => decide (0 - l ∈ b)
def metBy (a b : List Int) : Option (List Int) := match contr a b with
  | [x] => some (sset (a.filter (fun l => !decide (l = x)) ++ b.filter (fun l => !decide (l = 0 - x))))
  | _ => none
def gotBy (cs : Cls') : List Int → Option (List Int)
  | [] => none
  | p :: r => r.foldl (fun f q => f.bind fun x => (atI cs q).bind fun y => metBy x y) (atI cs p)
theorem gotBy_snoc {cs : Cls'} {ps : List Int} {q : Int} {x y : List Int} (h0 : ps ≠ []) (h : gotBy cs ps = some x) (hq : atI cs q = some y) : gotBy cs (ps ++ [q]) = metBy x y := by
  match ps, h0 with
  | p :: r, _ =>
    show (r ++ [q]).foldl _ _ = _
    rw [List.foldl_append]
    have h : r.foldl (fun f q => f.bind fun x => (atI cs q).bind fun y => metBy x y) (atI cs p) = some x := h
    rw [h]
    show ((some x).bind fun x => (atI cs q).bind fun y => metBy x y) = _
    rw [hq]; rfl
def linkOk (many : Int) (known : Cls') (c ps : List Int) : Bool := isCl many c && !ps.isEmpty && (ps.all fun p => decide (0 ≤ p) && decide (p ≤ (known.length : Int) - 1)) && decide (gotBy known ps = some c)
def chainOk (many : Int) : Cls' → List (List Int × List Int) → Bool
  | known, [] => decide (known.getLast? = some [])
  | known, x :: r => linkOk many known x.1 x.2 && chainOk many (known ++ [x.1]) r
def linksOk (many : Int) : Cls' → List (List Int × List Int) → Prop
  | _, [] => True
  | known, x :: r => linkOk many known x.1 x.2 = true ∧ linksOk many (known ++ [x.1]) r
theorem linksOk_snoc {many : Int} : ∀ {ls : List (List Int × List Int)} {known : Cls'} {x : List Int × List Int}, linksOk many known ls → linkOk many (known ++ ls.map (·.1)) x.1 x.2 = true → linksOk many known (ls ++ [x])
  | [], known, x, _, h => by rw [List.map_nil, List.append_nil] at h; exact ⟨h, trivial⟩
  | y :: r, known, x, h, k => ⟨h.1, linksOk_snoc h.2 (by rw [List.append_assoc]; exact k)⟩
theorem linksOk_chain {many : Int} : ∀ {ls : List (List Int × List Int)} {known : Cls'}, linksOk many known ls → (known ++ ls.map (·.1)).getLast? = some [] → chainOk many known ls = true
  | [], known, _, h => by rw [List.map_nil, List.append_nil] at h; exact decide_eq_true h
  | y :: r, known, h, k => by
    show (linkOk many known y.1 y.2 && chainOk many (known ++ [y.1]) r) = true
    rw [h.1, linksOk_chain h.2 (by rw [List.append_assoc]; exact k)]; rfl
theorem chain_links {many : Int} : ∀ {ls : List (List Int × List Int)} {known : Cls'}, chainOk many known ls = true → linksOk many known ls ∧ (known ++ ls.map (·.1)).getLast? = some []
  | [], known, h => by rw [List.map_nil, List.append_nil]; exact ⟨trivial, of_decide_eq_true h⟩
  | y :: r, known, h => by
    have h : (linkOk many known y.1 y.2 && chainOk many (known ++ [y.1]) r) = true := h
    rw [Bool.and_eq_true] at h
    obtain ⟨h1, h2⟩ := chain_links h.2
    exact ⟨⟨h.1, h1⟩, by rw [List.append_assoc] at h2; exact h2⟩
/-! ### rows of units -/
structure TrI (cs : Cls') (gs : List Int) (R : List (Int × Nat)) (W : List Nat) : Prop where
  row : ∀ i l q, R[i]? = some (l, q) → ∃ c, cs[q]? = some c ∧ l ∈ c ∧ ∀ y ∈ c, y ≠ l → -y ∈ gs ++ (R.take i).map (·.1)
  cons : ∀ l ∈ gs ++ R.map (·.1), -l ∉ gs ++ R.map (·.1)
  nd : (R.map (·.1)).Nodup
  win : ∀ q ∈ W, q < cs.length
  quiet : ∀ (q : Nat) c, cs[q]? = some c → q ∈ W ∨ Quiet (gs ++ R.map (·.1)) c
structure TrOk (cs : Cls') (gs : List Int) (R : List (Int × Nat)) (o : Option Nat) : Prop where
  row : ∀ i l q, R[i]? = some (l, q) → ∃ c, cs[q]? = some c ∧ l ∈ c ∧ ∀ y ∈ c, y ≠ l → -y ∈ gs ++ (R.take i).map (·.1)
  cons : ∀ l ∈ gs ++ R.map (·.1), -l ∉ gs ++ R.map (·.1)
  some_ : ∀ q, o = some q → ∃ c, cs[q]? = some c ∧ ∀ y ∈ c, -y ∈ gs ++ R.map (·.1)
  none_ : o = none → ∀ c ∈ cs, Quiet (gs ++ R.map (·.1)) c
section
variable {cs : Cls'} {gs : List Int} {R : List (Int × Nat)} {W : List Nat} {q : Nat} {c : List Int}
theorem TrI.start (nd : ∀ c ∈ cs, c.Nodup) (hg : ∀ l ∈ gs, -l ∉ gs) (h0 : ∀ q ∈ W, q < cs.length) (h1 : ∀ (q : Nat) c, cs[q]? = some c → c.length < 2 → q ∈ W) (h2 : ∀ (q : Nat) c, cs[q]? = some c → ∀ g ∈ gs, -g ∈ c → q ∈ W) : TrI cs gs [] W := by
  refine ⟨fun i l q h => by simp at h, by simpa using hg, List.nodup_nil, h0, fun q c hc => ?_⟩
  by_cases e : c.length < 2
  · exact .inl (h1 q c hc e)
  by_cases f : ∃ g ∈ gs, -g ∈ c
  · obtain ⟨g, m1, m2⟩ := f
    exact .inl (h2 q c hc g m1 m2)
  · refine .inr (.inr ?_)
    have nc := nd c (List.mem_of_getElem? hc)
    have no : ∀ y ∈ c, -y ∉ gs ++ ([] : List (Int × Nat)).map (·.1) := fun y hy z => by
      rw [List.map_nil, List.append_nil] at z
      exact f ⟨-y, z, by rw [Int.neg_neg]; exact hy⟩
    match c, nc, e, no with
    | [], _, e, _ => simp at e
    | [_], _, e, _ => simp at e
    | a :: b :: r, n, _, no =>
      refine ⟨a, by simp, b, by simp, ?_, no a (by simp), no b (by simp)⟩
      intro z
      subst z
      simp at n
theorem TrI.drop (I : TrI cs gs R (W ++ [q])) (hc : cs[q]? = some c) (k : Quiet (gs ++ R.map (·.1)) c) : TrI cs gs R W := by
  refine ⟨I.row, I.cons, I.nd, fun x hx => I.win x (List.mem_append_left _ hx), fun x d hd => ?_⟩
  rcases I.quiet x d hd with h | h
  · rcases List.mem_append.mp h with h | h
    · exact .inl h
    · have e := List.mem_singleton.mp h
      rw [e, hc] at hd
      cases hd
      exact .inr k
  · exact .inr h
theorem TrI.ends (I : TrI cs gs R (W ++ [q])) (hc : cs[q]? = some c) (h : ∀ l ∈ c, -l ∈ gs ++ R.map (·.1)) : TrOk cs gs R (some q) :=
  ⟨I.row, I.cons, fun x hx => by cases hx; exact ⟨c, hc, h⟩, fun z => (by cases z)⟩
theorem TrI.done (I : TrI cs gs R []) : TrOk cs gs R none :=
  ⟨I.row, I.cons, fun x hx => (by cases hx), fun _ d hd => by
    obtain ⟨j, hj⟩ := List.getElem?_of_mem hd
    exact (I.quiet j d hj).resolve_left (by simp)⟩
theorem rows_snoc (gs : List Int) (R : List (Int × Nat)) (l : Int) (q : Nat) : gs ++ (R ++ [(l, q)]).map (·.1) = gs ++ R.map (·.1) ++ [l] := by rw [List.map_append, List.append_assoc]; rfl
theorem TrI.add (I : TrI cs gs R (W ++ [q])) {l : Int} (hc : cs[q]? = some c) (h0 : l ≠ 0) (hl : l ∈ c) (n1 : l ∉ gs ++ R.map (·.1)) (n2 : -l ∉ gs ++ R.map (·.1)) (ho : ∀ y ∈ c, y ≠ l → -y ∈ gs ++ R.map (·.1)) {V : List Nat} (h1 : ∀ x ∈ V, x < cs.length) (h2 : ∀ (x : Nat) d, cs[x]? = some d → -l ∈ d → x ∈ V) : TrI cs gs (R ++ [(l, q)]) (W ++ V) := by
  refine ⟨fun i m x h => ?_, fun m hm h => ?_, ?_, fun x hx => ?_, fun x d hd => ?_⟩
  · by_cases e : i < R.length
    · rw [List.getElem?_append_left e] at h
      rw [List.take_append_of_le_length (Nat.le_of_lt e)]
      exact I.row i m x h
    · have e2 : i = R.length := by
        have := (List.getElem?_eq_some_iff.mp h).1
        rw [List.length_append] at this
        simp at this; omega
      subst e2
      rw [List.getElem?_append_right (Nat.le_refl _), Nat.sub_self] at h
      cases h
      rw [List.take_append_of_le_length (Nat.le_refl _), List.take_length]
      exact ⟨c, hc, hl, ho⟩
  · rw [rows_snoc] at hm h
    rcases List.mem_append.mp hm with a | a <;> rcases List.mem_append.mp h with b | b
    · exact I.cons m a b
    · have e : -m = l := List.mem_singleton.mp b
      exact n2 (by rw [← e, Int.neg_neg]; exact a)
    · rw [List.mem_singleton.mp a] at b; exact n2 b
    · have e1 := List.mem_singleton.mp a
      have e2 := List.mem_singleton.mp b
      omega
  · rw [List.map_append]
    refine List.nodup_append.mpr ⟨I.nd, List.pairwise_singleton _ _, fun a ha b hb e => n1 (List.mem_append_right _ ?_)⟩
    have hb' : b = l := List.mem_singleton.mp hb
    rw [hb'] at e
    rw [← e]; exact ha
  · rcases List.mem_append.mp hx with h | h
    · exact I.win x (List.mem_append_left _ h)
    · exact h1 x h
  · rw [rows_snoc]
    by_cases hn : -l ∈ d
    · exact .inl (List.mem_append_right _ (h2 x d hd hn))
    · rcases I.quiet x d hd with h | h
      · rcases List.mem_append.mp h with h | h
        · exact .inl (List.mem_append_left _ h)
        · rw [List.mem_singleton.mp h, hc] at hd
          cases hd
          exact .inr (.inl ⟨l, hl, List.mem_append_right _ List.mem_cons_self⟩)
      · exact .inr (h.step hn)
theorem TrOk.no (h : TrOk cs gs R none) : ¬ Clashes cs gs := by
  have q := h.none_ rfl
  have key : ∀ {c : List Int} {l : Int}, Quiet (gs ++ R.map (·.1)) c → l ∈ c → (∀ y ∈ c, y ≠ l → -y ∈ gs ++ R.map (·.1)) → l ∈ gs ++ R.map (·.1) := by
    rintro c l (⟨m, hm, hs⟩ | ⟨m, hm, n, hn, hmn, o1, o2⟩) hl ho
    · by_cases e : m = l
      · rw [← e]; exact hs
      · exact absurd (ho m hm e) (h.cons m hs)
    · by_cases e : m = l
      · exact absurd (ho n hn (fun z => hmn (e.trans z.symm))) o2
      · exact absurd (ho m hm e) o1
  have all : ∀ l, Der cs gs l → l ∈ gs ++ R.map (·.1) := by
    intro l d
    induction d with
    | given h => exact List.mem_append_left _ h
    | unit hc m o ih => exact key (q _ hc) m ih
  rintro (⟨c, hc, ha⟩ | ⟨g, hg, ha⟩)
  · rcases q c hc with ⟨m, hm, hs⟩ | ⟨m, hm, n, hn, hmn, o1, o2⟩
    · exact h.cons m hs (all _ (ha m hm))
    · exact o1 (all _ (ha m hm))
  · exact h.cons g (List.mem_append_left _ hg) (all _ ha)
/-- one step back -/
theorem back_step {a : List Int} {i : Nat} {l : Int} {o : Option Nat} (T : TrOk cs gs R o) (hR : R[i]? = some (l, q)) (hc : cs[q]? = some c) (na : a.Nodup) (h : ∀ y ∈ a, -y ∈ gs ++ (R.take (i + 1)).map (·.1)) (m : 0 - l ∈ a) :
    ∃ r, metBy a c = some r ∧ (∀ y ∈ r, -y ∈ gs ++ (R.take i).map (·.1)) ∧ (∀ y ∈ r, y ∈ a ∨ y ∈ c) ∧ r.Pairwise (· < ·) := by
  obtain ⟨c', hc', hl, hy⟩ := T.row i l q hR
  rw [hc] at hc'
  cases hc'
  have sub : ∀ k x, x ∈ gs ++ (R.take k).map (·.1) → x ∈ gs ++ R.map (·.1) := fun k x hx => by
    rcases List.mem_append.mp hx with hx | hx
    · exact List.mem_append_left _ hx
    · obtain ⟨z, hz, rfl⟩ := List.mem_map.mp hx
      exact List.mem_append_right _ (List.mem_map_of_mem (List.mem_of_mem_take hz))
  have e1 : contr a c = [0 - l] := by
    unfold contr
    have : (a.filter fun y => decide (0 - y ∈ c)) = a.filter fun y => y == 0 - l := by
      refine List.filter_congr fun y hy' => ?_
      rw [Bool.eq_iff_iff, decide_eq_true_iff, beq_iff_eq]
      constructor
      · intro z
        by_cases e : 0 - y = l
        · omega
        · have h1 := sub _ _ (hy (0 - y) z e)
          have h2 := sub _ _ (h y hy')
          rw [show -(0 - y) = y by omega] at h1
          exact absurd h2 (T.cons y h1)
      · intro z
        rw [z, show 0 - (0 - l) = l by omega]; exact hl
    rw [this, List.filter_beq, Nat.le_antisymm (List.nodup_iff_count.mp na _) (List.one_le_count_iff.mpr m)]
    rfl
  refine ⟨_, by unfold metBy; rw [e1], fun y hy' => ?_, fun y hy' => ?_, sset_pw _⟩
  · rcases List.mem_append.mp (mem_sset.mp hy') with z | z
    · obtain ⟨z1, z2⟩ := List.mem_filter.mp z
      have z3 : ¬ y = 0 - l := by simpa using z2
      have h1 := h y z1
      have et : R.take (i + 1) = R.take i ++ [(l, q)] := by rw [List.take_add_one, hR]; rfl
      rw [et, rows_snoc] at h1
      rcases List.mem_append.mp h1 with h1 | h1
      · exact h1
      · have := List.mem_singleton.mp h1; omega
    · obtain ⟨z1, z2⟩ := List.mem_filter.mp z
      have z3 : ¬ y = 0 - (0 - l) := by simpa using z2
      exact hy y z1 (by omega)
  · rcases List.mem_append.mp (mem_sset.mp hy') with z | z
    · exact .inl (List.mem_filter.mp z).1
    · exact .inr (List.mem_filter.mp z).1
theorem back_skip {a : List Int} {i : Nat} {l : Int} (hR : R[i]? = some (l, q)) (h : ∀ y ∈ a, -y ∈ gs ++ (R.take (i + 1)).map (·.1)) (m : 0 - l ∉ a) : ∀ y ∈ a, -y ∈ gs ++ (R.take i).map (·.1) := by
  intro y hy
  have h1 := h y hy
  have et : R.take (i + 1) = R.take i ++ [(l, q)] := by rw [List.take_add_one, hR]; rfl
  rw [et, rows_snoc] at h1
  rcases List.mem_append.mp h1 with h1 | h1
  · exact h1
  · have e := List.mem_singleton.mp h1
    exact absurd (show 0 - l ∈ a by rw [← e, show 0 - -y = y by omega]; exact hy) m
end
/-! ### weaker ones -/
theorem sub_rup {cs P F : Cls'} {c : List Int} (hP : ∀ p ∈ P, (∃ l ∈ p, -l ∈ p ∧ l ≠ 0) ∨ ∃ f ∈ F, ∀ y ∈ f, y ∈ p) (h : Rup (cs ++ P) c) : Rup (cs ++ F) c := by
  unfold Rup at h ⊢
  by_cases C : Clashes (cs ++ F) (c.map fun l => -l)
  · exact C
  exfalso
  have key : ∀ l, Der (cs ++ P) (c.map fun l => -l) l → Der (cs ++ F) (c.map fun l => -l) l := by
    intro l d
    induction d with
    | given h => exact .given h
    | @unit x l hc m o ih =>
      rcases List.mem_append.mp hc with hc | hc
      · exact .unit (List.mem_append_left _ hc) m ih
      · rcases hP x hc with ⟨z, z1, z2, z0⟩ | ⟨f, hf, hs⟩
        · by_cases e1 : z = l
          · by_cases e2 : -z = l
            · exact absurd (show z = 0 by omega) z0
            · have := ih (-z) z2 e2
              rw [Int.neg_neg, e1] at this
              exact this
          · have h1 := ih z z1 e1
            by_cases e2 : -z = l
            · rw [e2] at h1; exact h1
            · have h2 := ih (-z) z2 e2
              exact absurd (clash_both h1 h2) C
        · by_cases e : l ∈ f
          · exact .unit (List.mem_append_right _ hf) e fun y hy ne => ih y (hs y hy) ne
          · exact absurd (.inl ⟨f, List.mem_append_right _ hf, fun y hy => ih y (hs y hy) fun z => e (z ▸ hy)⟩) C
  apply C
  rcases h with ⟨x, hc, hx⟩ | ⟨g, hg, hx⟩
  · rcases List.mem_append.mp hc with hc | hc
    · exact .inl ⟨x, List.mem_append_left _ hc, fun l hl => key _ (hx l hl)⟩
    · rcases hP x hc with ⟨z, z1, z2, z0⟩ | ⟨f, hf, hs⟩
      · have h1 := key _ (hx z z1)
        have h2 := key _ (hx (-z) z2)
        exact clash_both h1 h2
      · exact .inl ⟨f, List.mem_append_right _ hf, fun y hy => key _ (hx y (hs y hy))⟩
  · exact .inr ⟨g, hg, key _ hx⟩
end Nt
set_option maxRecDepth 100000
set_option maxHeartbeats 1000000
/-! NtT2: clauses that meet, judged chains. -/
namespace Nt
open PySem PySem.Spec PyProof.Rows L2
structure Lk where
  t : Addr
  c : Addr
  q : Addr
  its : List Int
  ps : List Int
def lkr (x : Lk) : V := .ref x.t
def lkd (x : Lk) : List Int × List Int := (x.its, x.ps)
def LKs (H : Hp) (ls : List Lk) : Prop := ∀ x ∈ ls, H x.t = some (.tup [.ref x.c, .ref x.q]) ∧ H x.c = some (.tup (x.its.map V.int)) ∧ H x.q = some (.tup (x.ps.map V.int))
theorem LKs.mono {H H' : Hp} {ls : List Lk} (h : LKs H ls) (s : Same H H') : LKs H' ls := fun x hx => ⟨s _ _ (h x hx).1, s _ _ (h x hx).2.1, s _ _ (h x hx).2.2⟩
theorem linksOk_at {many : Int} : ∀ {l : List (List Int × List Int)} {known : Cls'} {x : List Int × List Int} {r : List (List Int × List Int)}, linksOk many known (l ++ x :: r) → linkOk many (known ++ l.map (·.1)) x.1 x.2 = true
  | [], known, x, r, h => by rw [List.map_nil, List.append_nil]; exact h.1
  | y :: l, known, x, r, h => by
    have := linksOk_at (l := l) h.2
    rw [List.append_assoc] at this
    exact this
theorem at_map {ks : List Cl} {i : Int} {y : List Int} (h : atI (ks.map (·.2)) i = some y) : ∃ k ∈ ks, k.2 = y ∧ atI (ks.map rf) i = some (rf k) := by
  unfold atI at h ⊢
  rw [List.length_map] at h ⊢
  cases e : ixN ks.length i with
  | none => rw [e] at h; cases h
  | some j =>
    rw [e] at h
    have h : (ks.map (·.2))[j]? = some y := h
    rw [List.getElem?_map] at h
    obtain ⟨k, h1, h2⟩ := Option.map_eq_some_iff.mp h
    refine ⟨k, List.mem_of_getElem? h1, h2, ?_⟩
    show (ks.map rf)[j]? = _
    rw [List.getElem?_map, h1]; rfl
theorem metBy_cl {many : Int} {a b r : List Int} (ha : isCl many a = true) (hb : isCl many b = true) (h : metBy a b = some r) : isCl many r = true := by
  unfold metBy at h
  split at h
  · cases h
    refine isCl_iff.mpr ⟨fun l hl => ?_, sset_pw _⟩
    rcases List.mem_append.mp (mem_sset.mp hl) with h | h
    · exact (isCl_iff.mp ha).1 l (List.mem_filter.mp h).1
    · exact (isCl_iff.mp hb).1 l (List.mem_filter.mp h).1
  · cases h
abbrev gstep (cs : Cls') (f : Option (List Int)) (q : Int) : Option (List Int) := f.bind fun x => (atI cs q).bind fun y => metBy x y
theorem gstep_none (cs : Cls') : ∀ r : List Int, r.foldl (gstep cs) none = none
  | [] => rfl
  | a :: r => gstep_none cs r
/-- an item: a link -/
def Dl (H : Hp) (v : V) : Prop := ∃ x : Lk, v = lkr x ∧ LKs H [x]
theorem dl_data {K : PySem.W.Frag} {H : Hp} {v : V} (h : Dl H v) : ∃ d, Dp K H v d ∧ d.canLay0 = true ∧ d.depth ≤ 2 := by
  obtain ⟨x, rfl, hx⟩ := h
  obtain ⟨x1, x2, x3⟩ := hx x List.mem_cons_self
  refine ⟨.tuple [dT x.its, dT x.ps], .tup (SqT.of x1) (.cons (dT_dp x2) (.cons (dT_dp x3) .nil)), ?_, ?_⟩
  · have h1 : PyData.canLay0 (dT x.its) = true := by simp only [dT, PyData.canLay0, lay_ints]
    have h2 : PyData.canLay0 (dT x.ps) = true := by simp only [dT, PyData.canLay0, lay_ints]
    simp only [PyData.canLay0, PyData.canLayAll0, h1, h2]; rfl
  · have h1 : PyData.depth (dT x.its) ≤ 1 := by simp only [dT, PyData.depth, dep_ints]; decide
    have h2 : PyData.depth (dT x.ps) ≤ 1 := by simp only [dT, PyData.depth, dep_ints]; decide
    simp only [PyData.depth, PyData.depthAll]; omega
theorem dl_all {K : PySem.W.Frag} {H : Hp} : ∀ {vs : List V}, (∀ v ∈ vs, Dl H v) → ∃ ds, DpAll K H vs ds ∧ PyData.canLayAll0 ds = true ∧ PyData.depthAll ds ≤ 2 ∧ ds.length = vs.length
  | [], _ => ⟨[], .nil, by simp [PyData.canLayAll0], by simp [PyData.depthAll], rfl⟩
  | v :: vs, h => by
    obtain ⟨d, h1, h2, h3⟩ := dl_data (K := K) (h v List.mem_cons_self)
    obtain ⟨ds, k1, k2, k3, k4⟩ := dl_all (K := K) fun u hu => h u (List.mem_cons_of_mem _ hu)
    refine ⟨d :: ds, .cons h1 k1, by simp [PyData.canLayAll0, h2, k2], ?_, by simp [k4]⟩
    simp only [PyData.depthAll]; omega
section
variable {X : Cx}
def rEqL : R2 := fun x y H Q => ∃ (a b : Addr) (xs : List V), x = .ref a ∧ y = .ref b ∧ H a = some (.tup xs) ∧ H b = some (.tup []) ∧ (∀ v ∈ xs, Dl H v) ∧ Q (.bl xs.isEmpty) H
theorem op_eqL (hu : X.A.units + 64 < cLine) : OpR X (compareOp .Eq) rEqL := by
  rintro pins s σ H x y v u Q I rx ry ⟨a, b, xs, rfl, rfl, h1, h2, hx, q⟩
  obtain ⟨ds, k1, k2, k3, k4⟩ := dl_all (K := X.K) hx
  have z2 : SeqAt.shaped (.tuple ds) = true := by
    unfold SeqAt.shaped
    simp only [PyData.canLay0, PyData.depth, k2, Bool.true_and]
    exact decide_eq_true (by omega)
  have e := isE k4
  refine op_eqD hu pins s σ H _ _ v u Q I rx ry ⟨.tuple ds, .tuple [], .tup (SqT.of h1) k1, .tup (SqT.of h2) .nil, z2, by decide, ?_⟩
  simp only [PyData.eqv, eqvAll_nil, e]; exact q
end
def sp_contrary (K : PySem.W.Frag) : Sp := fun vs H Q _ => ∃ (a b : Addr) (xs ys : List Int), vs = [.ref a, .ref b] ∧ H a = some (.tup (xs.map V.int)) ∧ H b = some (.tup (ys.map V.int)) ∧ xs.length ≤ 1000 ∧ ∀ H' q, Same H H' → H' q = some (.lst ((contr xs ys).map V.int)) → Q (.ref q) H'
theorem len_contrary (K : PySem.W.Frag) : ∀ vs H Q E, sp_contrary K vs H Q E → vs.length = 2 := by
  rintro vs H Q E ⟨a, b, xs, ys, rfl, _⟩; rfl
def sp_met_by (K : PySem.W.Frag) : Sp := fun vs H Q _ => ∃ (a b : Addr) (xs ys : List Int), vs = [.ref a, .ref b] ∧ H a = some (.tup (xs.map V.int)) ∧ H b = some (.tup (ys.map V.int)) ∧ xs.length + ys.length < 64 ∧
  (metBy xs ys = none → ∀ H', Same H H' → Q .non H') ∧ ∀ r, metBy xs ys = some r → ∀ H' q, Same H H' → H' q = some (.tup (r.map V.int)) → Q (.ref q) H'
theorem len_met_by (K : PySem.W.Frag) : ∀ vs H Q E, sp_met_by K vs H Q E → vs.length = 2 := by
  rintro vs H Q E ⟨a, b, xs, ys, rfl, _⟩; rfl
def sp_is_trivial (K : PySem.W.Frag) : Sp := fun vs H Q _ => ∃ (a : Addr) (xs : List Int), vs = [.ref a] ∧ H a = some (.tup (xs.map V.int)) ∧ xs.length ≤ 1000 ∧ ∀ H', Same H H' → Q (.bl (!(contr xs xs).isEmpty)) H'
theorem len_is_trivial (K : PySem.W.Frag) : ∀ vs H Q E, sp_is_trivial K vs H Q E → vs.length = 1 := by
  rintro vs H Q E ⟨a, xs, rfl, _⟩; rfl
def sp_got_by (K : PySem.W.Frag) : Sp := fun vs H Q _ => ∃ (k q : Addr) (many : Int) (ks : List Cl) (ps c : List Int), vs = [.ref k, .ref q] ∧ H k = some (.lst (ks.map rf)) ∧ CLs H ks ∧ H q = some (.tup (ps.map V.int)) ∧ 0 ≤ many ∧ many ≤ 15 ∧ (∀ x ∈ ks, isCl many x.2 = true) ∧ gotBy (ks.map (·.2)) ps = some c ∧
  ∀ H' z, Same H H' → H' z = some (.tup (c.map V.int)) → Q (.ref z) H'
theorem len_got_by (K : PySem.W.Frag) : ∀ vs H Q E, sp_got_by K vs H Q E → vs.length = 2 := by
  rintro vs H Q E ⟨k, q, many, ks, ps, c, rfl, _⟩; rfl
def sp_is_link (K : PySem.W.Frag) : Sp := fun vs H Q _ => ∃ (k : Addr) (many : Int) (ks : List Cl) (x : Lk), vs = [.int many, .ref k, .ref x.t] ∧ H k = some (.lst (ks.map rf)) ∧ CLs H ks ∧ LKs H [x] ∧ 0 ≤ many ∧ many ≤ 15 ∧ (∀ x ∈ ks, isCl many x.2 = true) ∧ x.ps.length ≤ 100000 ∧ linkOk many (ks.map (·.2)) x.its x.ps = true ∧
  ∀ H', Same H H' → Q (.bl true) H'
theorem len_is_link (K : PySem.W.Frag) : ∀ vs H Q E, sp_is_link K vs H Q E → vs.length = 3 := by
  rintro vs H Q E ⟨k, many, ks, x, rfl, _⟩; rfl
def sp_is_chain_of (K : PySem.W.Frag) : Sp := fun vs H Q _ => ∃ (v : V) (many : Int) (as : List Cl) (a : Addr) (ls : List Lk), vs = [v, .ref a] ∧ BdS H v many as ∧ many ≤ 15 ∧ H a = some (.tup (ls.map lkr)) ∧ LKs H ls ∧ ls ≠ [] ∧ ls.length ≤ 60000 ∧ (∀ x ∈ ls, x.ps.length ≤ 100000) ∧ chainOk many (as.map (·.2)) (ls.map lkd) = true ∧
  ∀ H', Same H H' → Q (.bl true) H'
theorem len_is_chain_of (K : PySem.W.Frag) : ∀ vs H Q E, sp_is_chain_of K vs H Q E → vs.length = 2 := by
  rintro vs H Q E ⟨v, many, as, a, ls, rfl, _⟩; rfl
def sp_is_chain (K : PySem.W.Frag) : Sp := sp_is_chain_of K
theorem len_is_chain (K : PySem.W.Frag) : ∀ vs H Q E, sp_is_chain K vs H Q E → vs.length = 2 := len_is_chain_of K
section
variable {P : Program} {w : World} {K : PySem.W.Frag} {mg : Str → Option Value} {base : Heap}
theorem sc_contrary : FnScope ["one", "other", "literal"] ["one", "other"] (defScope s_contrary) := ⟨rfl, rfl, rfl, by decide +kernel, rfl, by decide +kernel, by decide +kernel⟩
theorem ok_contrary (T : Tx K mg)  : CalF P w K mg base ("contrary", none) 1 ["one", "other"] (sp_contrary K) := by
  refine calF T (d := d_contrary) 47 rfl sc_contrary rfl rfl (fun _ _ _ _ _ _ us hl => match us, hl with | [_, _], _ => rfl) (len_contrary K) ?_
  intro cdv A outer s H vs Q E hr h
  have hu := hu_of hr
  obtain ⟨a, b, xs, ys, rfl, ha, hb, hl, k⟩ := h
  refine ⟨_, (pss_one (ps_ret (pe_lc (own := [("literal", 2)]) (g := gName 2) rfl sc_contrary.nd (pi_tupK (K := K) rfl (pv 0)) (blkOk_by (by kernel_rfl)) (fun _ _ _ _ _ => (pg_name (i := 2) sc_contrary.nd rfl (Or.inl rfl))) (fun _ _ _ _ _ => (pts_one (pt_cmpR op_in2 (pe_op op_sub pe_int (pv 2)) (pv 1) (by rfl)))) (fun _ _ _ _ _ => (pv 2))))), ?_⟩
  refine ⟨_, rfl, a, rfl, ⟨_, SqT.of ha⟩, ?_⟩
  refine lcV xs _ (wkT xs V.int) yName (fun l => decide (0 - l ∈ ys)) V.int (by omega) (by intro _; rfl) (fun H h => SqT.of (h _ _ ha)) ?_ ?_ ?_
  · intro l hl H1 s1 Qb q
    exact ⟨_, rfl, _, _, rfl, rfl, _, rfl, 0 - l, b, ys, rfl, rfl, .inr (s1 _ _ hb), _, rfl, q _ (Same.refl _)⟩
  · intro l hl _ H1 s1 Qe q
    exact ⟨_, rfl, q _ (Same.refl _)⟩
  · intro D H1 _ s1 h1
    exact k H1 D s1 h1
theorem sc_met_by : FnScope ["one", "other", "some", "left", "literal", "right"] ["one", "other"] (defScope s_met_by) := ⟨rfl, rfl, rfl, by decide +kernel, rfl, by decide +kernel, by decide +kernel⟩
theorem ok_met_by (T : Tx K mg) (C_contrary : CalF P w K mg base ("contrary", none) 1 ["one", "other"] (sp_contrary K)) : CalF P w K mg base ("met_by", none) 2 ["one", "other"] (sp_met_by K) := by
  have mg_tuple : mg "tuple" = none := T.free 73
  have mg_len : mg "len" = none := T.free 62
  have mg_sorted : mg "sorted" = none := T.free 69
  have mg_set : mg "set" = none := T.free 68
  obtain ⟨fd_contrary, b_contrary, G_contrary, kp_contrary⟩ := C_contrary
  have mg_contrary : mg "contrary" = some (.ref (He.ga K "contrary")) := T.glo 31
  refine calF T (d := d_met_by) 48 rfl sc_met_by rfl rfl (fun _ _ _ _ _ _ us hl => match us, hl with | [_, _], _ => rfl) (len_met_by K) ?_
  intro cdv A outer s H vs Q E hr h
  have hu := hu_of hr
  obtain ⟨a, b, xs, ys, rfl, ha, hb, hl, k1, k2⟩ := h
  refine ⟨_, (pss_cons (ps_set (i := 2) sc_met_by.nd rfl (Or.inr rfl) (pe_call G_contrary (hr.mono (by decide)) (by rfl) mg_contrary kp_contrary b_contrary .nil pass0 (pa_cons (pv 0) (pa_cons (pv 1) pa_nil))))
      (pss_cons (ps_if (pt_cmpR op_ne (pe_callB call_len2 (by rfl) mg_len bt_len (pa_cons (pv 2) pa_nil)) pe_int (nomark _)) (pss_one (ps_ret pe_non)) pss_nil)
      (pss_cons (ps_setLc (i := 3) (own := [("literal", 4)]) (g := gName 4) rfl sc_met_by.nd rfl rfl (sw_true rfl rfl rfl (by decide +kernel)) (pi_tupK (K := K) rfl (pv 0)) (blkOk_by (by kernel_rfl)) (fun _ _ _ _ _ => (pg_name (i := 4) sc_met_by.nd rfl (Or.inl rfl))) (fun _ _ _ _ _ => (pts_one (pt_cmpR op_ne (pv 4) (pe_ix ix_list2 (pv 2) pe_int (fun _ _ => rfl)) (nomark _)))) (fun _ _ _ _ _ => (pv 4)))
      (pss_cons (ps_setLc (i := 5) (own := [("literal", 4)]) (g := gName 4) rfl sc_met_by.nd rfl rfl (sw_true rfl rfl rfl (by decide +kernel)) (pi_tupK (K := K) rfl (pv 1)) (blkOk_by (by kernel_rfl)) (fun _ _ _ _ _ => (pg_name (i := 4) sc_met_by.nd rfl (Or.inl rfl))) (fun _ _ _ _ _ => (pts_one (pt_cmpR op_ne (pv 4) (pe_op op_sub pe_int (pe_ix ix_list2 (pv 2) pe_int (fun _ _ => rfl))) (nomark _)))) (fun _ _ _ _ _ => (pv 4)))
      (pss_one (ps_ret (pe_callTy call_tuple2 (by rfl) mg_tuple bt_tuple (pa_cons (pe_sortedSet rfl (by rfl) mg_sorted (by rfl) mg_set (pe_lst (pa_starK (K := K) rfl (pv 3) (pa_starK (K := K) rfl (pv 5) pa_nil)))) pa_nil)))))))), ?_⟩
  refine ⟨_, rfl, _, rfl, a, b, xs, ys, rfl, ha, hb, by omega, fun H1 q s1 hq => ?_⟩
  refine ⟨_, rfl, q, _, rfl, .inl hq, rfl, _, rfl, ?_⟩
  rw [List.length_map, dec_int]
  match e : contr xs ys with
  | [] =>
    refine iteT ?_
    exact k1 (by unfold metBy; rw [e]) H1 s1
  | y :: z :: r =>
    rw [decide_eq_false (by simp; omega)]
    refine iteT ?_
    exact k1 (by unfold metBy; rw [e]) H1 s1
  | [x] =>
    rw [e] at hq
    refine iteF ?_
    refine ⟨_, rfl, a, rfl, ⟨_, SqT.of (s1 _ _ ha)⟩, ?_⟩
    refine lcV xs _ (wkT xs V.int) yName (fun l => !decide (l = x)) V.int (by omega) (by intro _; rfl) (fun H h => SqT.of (h _ _ (s1 _ _ ha))) ?_ ?_ ?_
    · intro l hl H2 s2 Qb qb
      refine ⟨_, rfl, _, rfl, q, _, 0, .int x, rfl, rfl, s2 _ _ hq, rfl, rfl, _, rfl, ?_⟩
      rw [dec_int]
      exact qb _ (Same.refl _)
    · intro l hl _ H2 s2 Qe q
      exact ⟨_, rfl, q _ (Same.refl _)⟩
    intro D2 H2 _ s2 h2
    have s12 := s1.trans s2
    have hq2 := s2 _ _ hq
    refine ⟨_, rfl, b, rfl, ⟨_, SqT.of (s12 _ _ hb)⟩, ?_⟩
    refine lcV ys _ (wkT ys V.int) yName (fun l => !decide (l = 0 - x)) V.int (by omega) (by intro _; rfl) (fun H h => SqT.of (h _ _ (s12 _ _ hb))) ?_ ?_ ?_
    · intro l hl H3 s3 Qb qb
      refine ⟨_, rfl, _, rfl, q, _, 0, .int x, rfl, rfl, s3 _ _ hq2, rfl, _, _, rfl, rfl, rfl, _, rfl, ?_⟩
      rw [dec_int]
      exact qb _ (Same.refl _)
    · intro l hl _ H3 s3 Qe q
      exact ⟨_, rfl, q _ (Same.refl _)⟩
    intro D3 H3 _ s3 h3
    have z1 := List.length_filter_le (fun l => !decide (l = x)) xs
    have z2 := List.length_filter_le (fun l => !decide (l = 0 - x)) ys
    refine ⟨_, rfl, D2, _, rfl, .inr (SqL.of (s3 _ _ h2)), _, rfl, D3, _, rfl, .inr (SqL.of h3), ?_⟩
    refine ⟨?_, fun F hF => ?_⟩
    · rw [List.append_nil, List.length_append, List.length_map, List.length_map]
      exact sz_le (by omega)
    rw [List.append_nil, ← List.map_append]
    have g4 := Same.new (o := .lst ((xs.filter (fun l => !decide (l = x)) ++ ys.filter (fun l => !decide (l = 0 - x))).map V.int)) hF
    refine ⟨F, _, rfl, .inl upd_same, by rw [List.length_append]; omega, fun q1 H4 s4 _ hq1 => ⟨q1, _, rfl, hq1, fun q2 hq2 => ?_⟩⟩
    exact k2 _ (by unfold metBy; rw [e]) _ q2 (s12.trans (s3.trans (g4.trans (s4.trans (Same.new hq2))))) upd_same
theorem sc_is_trivial : FnScope ["clause"] ["clause"] (defScope s_is_trivial) := ⟨rfl, rfl, rfl, by decide +kernel, rfl, by decide +kernel, by decide +kernel⟩
theorem ok_is_trivial (T : Tx K mg) (C_contrary : CalF P w K mg base ("contrary", none) 1 ["one", "other"] (sp_contrary K)) : CalF P w K mg base ("is_trivial", none) 2 ["clause"] (sp_is_trivial K) := by
  obtain ⟨fd_contrary, b_contrary, G_contrary, kp_contrary⟩ := C_contrary
  have mg_contrary : mg "contrary" = some (.ref (He.ga K "contrary")) := T.glo 31
  refine calF T (d := d_is_trivial) 54 rfl sc_is_trivial rfl rfl (fun _ _ _ _ _ _ us hl => match us, hl with | [_], _ => rfl) (len_is_trivial K) ?_
  intro cdv A outer s H vs Q E hr h
  have hu := hu_of hr
  obtain ⟨a, xs, rfl, ha, hl, k⟩ := h
  refine ⟨_, (pss_one (ps_ret (pe_cmpR (op_neE hr.units) (pe_call G_contrary (hr.mono (by decide)) (by rfl) mg_contrary kp_contrary b_contrary .nil pass0 (pa_cons (pv 0) (pa_cons (pv 0) pa_nil))) (pe_lst pa_nil) (nomark _)))), ?_⟩
  refine ⟨_, rfl, _, rfl, a, a, xs, xs, rfl, ha, ha, hl, fun H1 q s1 hq => ?_⟩
  refine ⟨Nat.zero_le _, fun e he => ?_⟩
  have g1 := Same.new (o := .lst []) he
  refine ⟨q, e, _, rfl, rfl, .inl ⟨g1 _ _ hq, upd_same⟩, dd_ints _, ?_⟩
  rw [List.isEmpty_map]
  exact k _ (s1.trans g1)
theorem sc_got_by : FnScope ["clauses", "places", "found", "place"] ["clauses", "places"] (defScope s_got_by) := ⟨rfl, rfl, rfl, by decide +kernel, rfl, by decide +kernel, by decide +kernel⟩
theorem ok_got_by (T : Tx K mg) (C_met_by : CalF P w K mg base ("met_by", none) 2 ["one", "other"] (sp_met_by K)) : CalF P w K mg base ("got_by", none) 3 ["clauses", "places"] (sp_got_by K) := by
  obtain ⟨fd_met_by, b_met_by, G_met_by, kp_met_by⟩ := C_met_by
  have mg_met_by : mg "met_by" = some (.ref (He.ga K "met_by")) := T.glo 32
  refine calF T (d := d_got_by) 58 rfl sc_got_by rfl rfl (fun _ _ _ _ _ _ us hl => match us, hl with | [_, _], _ => rfl) (len_got_by K) ?_
  intro cdv A outer s H vs Q E hr h
  have hu := hu_of hr
  obtain ⟨k0, q, many, ks, ps, c, rfl, hk, hks, hq, m0, m1, hcl, hg, k⟩ := h
  refine ⟨_, (pss_cons (ps_set (i := 2) sc_got_by.nd rfl (Or.inl rfl) (pe_ix ix_list2 (pv 0) (pe_ix ix_tup2 (pv 1) pe_int (fun _ _ => rfl)) (fun _ _ => rfl)))
      (pss_cons (ps_for PassesOwn.never rfl (pi_tupK (K := K) rfl (pe_slice sl_tup2 (pv 1) (po_some pe_int) po_none)) (pg_name (i := 3) sc_got_by.nd rfl (Or.inl rfl)) (pss_one (ps_set (i := 2) sc_got_by.nd rfl (Or.inl rfl) (pe_ifExp (pt_cmpR op_notN (pv 2) pe_non (nomark _)) (pe_call G_met_by (hr.mono (by decide)) (by rfl) mg_met_by kp_met_by b_met_by .nil pass0 (pa_cons (pv 2) (pa_cons (pe_ix ix_list2 (pv 0) (pv 3) (fun _ _ => rfl)) pa_nil))) pe_non))))
      (pss_one (ps_ret (pv 2))))), ?_⟩
  match ps, hg, hq with
  | p0 :: r, hg, hq =>
    have hg : r.foldl (gstep (ks.map (·.2))) (atI (ks.map (·.2)) p0) = some c := hg
    cases e0 : atI (ks.map (·.2)) p0 with
    | none => rw [e0, gstep_none] at hg; cases hg
    | some x0 =>
      rw [e0] at hg
      obtain ⟨z0, hz0, ez0, hat0⟩ := at_map e0
      refine ⟨_, rfl, _, rfl, q, _, 0, .int p0, rfl, rfl, hq, atI_nat (xs := (p0 :: r).map V.int) (j := 0) rfl, k0, _, _, _, rfl, rfl, hk, hat0, ?_⟩
      refine ⟨_, rfl, _, rfl, q, _, rfl, hq, fun b H1 s1 hb => ?_⟩
      have eb : cutV ((p0 :: r).map V.int) (some 1) none = r.map V.int := by rw [cut_tail]; rfl
      rw [eb] at hb
      refine ⟨b, rfl, ⟨_, SqT.of hb⟩, ?_⟩
      refine forA r (fun σ i => σ.set 3 (some (.int i))) (wkT r V.int) (fun σ => yName) (fun don σ H2 => ∃ f x y, σ = [some (.ref k0), some (.ref q), some (.ref f), y] ∧ Same H1 H2 ∧ H2 f = some (.tup (x.map V.int)) ∧ isCl many x = true ∧ don.foldl (gstep (ks.map (·.2))) (some x0) = some x)
        ⟨z0.1, x0, none, rfl, Same.refl _, by rw [← ez0]; exact s1 _ _ (hks z0 hz0), by rw [← ez0]; exact hcl z0 hz0, rfl⟩ (fun l σ H2 ⟨f, x, y, _, s2, _⟩ => SqT.of (s2 _ _ hb)) ?_ ?_
      · rintro don i r2 σ H2 H3 e ⟨f, x, y, rfl, s2, hf, hx, hd⟩ s3
        have s13 := s1.trans (s2.trans s3)
        rw [e, List.foldl_append, hd] at hg
        have hg : r2.foldl (gstep (ks.map (·.2))) ((atI (ks.map (·.2)) i).bind fun y => metBy x y) = some c := hg
        cases e1 : atI (ks.map (·.2)) i with
        | none => rw [e1] at hg; rw [show (none.bind fun y => metBy x y) = (none : Option (List Int)) from rfl, gstep_none] at hg; cases hg
        | some w =>
          rw [e1] at hg
          have hg : r2.foldl (gstep (ks.map (·.2))) (metBy x w) = some c := hg
          obtain ⟨z1, hz1, ez1, hat1⟩ := at_map e1
          have wcl := hcl z1 hz1
          rw [ez1] at wcl
          have l1 := isCl_len m0 hx
          have l2 := isCl_len m0 wcl
          refine ⟨_, rfl, rfl, _, rfl, iteT ?_⟩
          refine ⟨_, rfl, _, rfl, _, rfl, k0, _, _, _, rfl, rfl, s13 _ _ hk, hat1, f, z1.1, x, w, rfl, s3 _ _ hf, by rw [← ez1]; exact s13 _ _ (hks z1 hz1), by omega, fun hn H4 s4 => ?_, fun r4 hr4 H4 q4 s4 hq4 => ?_⟩
          · rw [hn, gstep_none] at hg; cases hg
          · refine ⟨q4, r4, _, rfl, s2.trans (s3.trans s4), hq4, metBy_cl hx wcl hr4, ?_⟩
            rw [List.foldl_append, hd]
            show (atI (ks.map (·.2)) i).bind (fun y => metBy x y) = _
            rw [e1]; exact hr4
      · rintro σ H2 ⟨f, x, y, rfl, s2, hf, hx, hd⟩
        rw [hd] at hg
        cases hg
        exact ⟨_, rfl, k H2 f (s1.trans s2) hf⟩
theorem sc_is_link : FnScope ["many", "known", "value", "places", "place"] ["many", "known", "value"] (defScope s_is_link) := ⟨rfl, rfl, rfl, by decide +kernel, rfl, by decide +kernel, by decide +kernel⟩
theorem ok_is_link (T : Tx K mg) (C_got_by : CalF P w K mg base ("got_by", none) 3 ["clauses", "places"] (sp_got_by K)) (C_is_clause : CalF P w K mg base ("is_clause", none) 2 ["many", "value"] (sp_is_clause K)) (C_is_between : CalF P w K mg base ("is_between", none) 2 ["value", "low", "high"] (sp_is_between K)) : CalF P w K mg base ("is_link", none) 4 ["many", "known", "value"] (sp_is_link K) := by
  have mg_all : mg "all" = none := T.free 55
  have mg_isinstance : mg "isinstance" = none := T.free 61
  have mg_tuple : mg "tuple" = none := T.free 73
  have mg_len : mg "len" = none := T.free 62
  obtain ⟨fd_got_by, b_got_by, G_got_by, kp_got_by⟩ := C_got_by
  obtain ⟨fd_is_clause, b_is_clause, G_is_clause, kp_is_clause⟩ := C_is_clause
  obtain ⟨fd_is_between, b_is_between, G_is_between, kp_is_between⟩ := C_is_between
  have mg_got_by : mg "got_by" = some (.ref (He.ga K "got_by")) := T.glo 37
  have mg_is_clause : mg "is_clause" = some (.ref (He.ga K "is_clause")) := T.glo 3
  have mg_is_between : mg "is_between" = some (.ref (He.ga K "is_between")) := T.glo 1
  refine calF T (d := d_is_link) 59 rfl sc_is_link rfl rfl (fun _ _ _ _ _ _ us hl => match us, hl with | [_, _, _], _ => rfl) (len_is_link K) ?_
  intro cdv A outer s H vs Q E hr h
  have hu := hu_of hr
  obtain ⟨k0, many, ks, x, rfl, hk, hks, hx, m0, m1, hcl, hpl, hok, k⟩ := h
  obtain ⟨x1, x2, x3⟩ := hx x List.mem_cons_self
  unfold linkOk at hok
  simp only [Bool.and_eq_true, decide_eq_true_eq] at hok
  obtain ⟨⟨⟨o1, o2⟩, o3⟩, o4⟩ := hok
  refine ⟨_, (pss_cons (ps_if (PW.pt (pw_or (pt_not (pt_val (pe_callB call_isi2 (by rfl) mg_isinstance bt_isinstance (pa_cons (pv 2) (pa_cons (pe_bltn (v := .ty "tuple") (by rfl) mg_tuple bt_tuple rfl) pa_nil))))) (pw_or (pt_cmpR op_ne (pe_callB call_len2 (by rfl) mg_len bt_len (pa_cons (pv 2) pa_nil)) pe_int (nomark _)) (pw_or1 (pt_not (pt_val (pe_call G_is_clause (hr.mono (by decide)) (by rfl) mg_is_clause kp_is_clause b_is_clause .nil pass0 (pa_cons (pv 0) (pa_cons (pe_ix ix_tup2 (pv 2) pe_int (fun _ _ => rfl)) pa_nil))))))))) (pss_one (ps_ret pe_bl)) pss_nil)
      (pss_cons (ps_set (i := 3) sc_is_link.nd rfl (Or.inl rfl) (pe_ix ix_tup2 (pv 2) pe_int (fun _ _ => rfl)))
      (pss_cons (ps_if (PW.pt (pw_or (pt_not (pt_val (pe_callB call_isi2 (by rfl) mg_isinstance bt_isinstance (pa_cons (pv 3) (pa_cons (pe_bltn (v := .ty "tuple") (by rfl) mg_tuple bt_tuple rfl) pa_nil))))) (pw_or1 (pt_cmpR (op_eqE hr.units) (pv 3) (pe_tup pa_nil) (nomark _))))) (pss_one (ps_ret pe_bl)) pss_nil)
      (pss_cons (ps_if (pt_not (pt_val (pe_callB (cr_all2 rfl) (by rfl) mg_all bt_all (pa_cons (pe_lc (own := [("place", 4)]) (g := gName 4) (tt := tYes) rfl sc_is_link.nd (pi_tupK (K := K) rfl (pv 3)) (blkOk_by (by kernel_rfl)) (fun _ _ _ _ _ => (pg_name (i := 4) sc_is_link.nd rfl (Or.inl rfl))) (fun _ _ _ _ _ => pts_nil) (fun _ _ _ _ _ => (pe_call G_is_between (hr.mono (by decide)) (by rfl) mg_is_between kp_is_between b_is_between .nil pass0 (pa_cons (pv 4) (pa_cons pe_int (pa_cons (pe_op op_sub (pe_callB call_len2 (by rfl) mg_len bt_len (pa_cons (pv 1) pa_nil)) pe_int) pa_nil)))))) pa_nil)))) (pss_one (ps_ret pe_bl)) pss_nil)
      (pss_one (ps_ret (pe_cmpR (op_eqT hr.units) (pe_call G_got_by (hr.mono (by decide)) (by rfl) mg_got_by kp_got_by b_got_by .nil pass0 (pa_cons (pv 1) (pa_cons (pv 3) pa_nil))) (pe_ix ix_tup2 (pv 2) pe_int (fun _ _ => rfl)) (nomark _)))))))), ?_⟩
  refine ⟨_, rfl, _, _, rfl, .inr (.inl ⟨x.t, _, rfl, rfl, .inl ⟨x1, _, rfl, iteF ?_⟩⟩)⟩
  refine ⟨_, rfl, x.t, _, rfl, .inr x1, rfl, _, rfl, iteF ?_⟩
  have l1 := isCl_len m0 o1
  refine ⟨_, rfl, _, rfl, x.t, _, _, _, rfl, rfl, x1, rfl, many, x.c, x.its, rfl, x2, by omega, fun H1 s1 => ?_⟩
  refine ⟨_, rfl, ?_⟩
  rw [o1]
  refine iteF ?_
  refine ⟨_, rfl, x.t, _, _, _, rfl, rfl, s1 _ _ x1, rfl, ?_⟩
  refine ⟨_, rfl, _, _, rfl, .inr (.inl ⟨x.q, _, rfl, rfl, .inl ⟨s1 _ _ x3, _, rfl, iteF ?_⟩⟩)⟩
  refine ⟨_, rfl, Nat.zero_le _, fun e he => ?_⟩
  have g1 := s1.trans (Same.new (o := .tup []) he)
  refine ⟨x.q, e, _, rfl, rfl, .inr ⟨Same.new (o := .tup []) he _ _ (s1 _ _ x3), upd_same⟩, dd_ints _, _, rfl, ?_⟩
  rw [List.isEmpty_map]
  have o2 : x.ps.isEmpty = false := by simpa using o2
  rw [o2]
  refine iteF ?_
  generalize upd H1 e (.tup []) = H2 at g1
  refine ⟨_, rfl, x.q, rfl, ⟨_, SqT.of (g1 _ _ x3)⟩, ?_⟩
  refine lcV0 x.ps _ (wkT x.ps V.int) yName (fun i => .bl (decide (0 ≤ i) && decide (i ≤ ((ks.map (·.2)).length : Int) - 1))) (by omega) (by intro _; rfl) (fun H h => SqT.of (h _ _ (g1 _ _ x3))) ?_ ?_
  · intro i hi H3 s3 Qe qe
    refine ⟨_, rfl, _, rfl, k0, _, rfl, .inl ((g1.trans s3) _ _ hk), _, _, rfl, rfl, i, 0, _, rfl, ?_⟩
    have := qe _ (Same.refl _)
    rw [List.length_map] at this ⊢
    exact this
  intro D H3 _ s3 h3
  refine ⟨D, Int, x.ps, _, rfl, h3, _, rfl, ?_⟩
  rw [o3]
  refine iteF ?_
  have g3 := g1.trans s3
  refine ⟨_, rfl, _, rfl, k0, x.q, many, ks, x.ps, x.its, rfl, g3 _ _ hk, hks.mono g3, g3 _ _ x3, m0, m1, hcl, o4, fun H4 z s4 hz => ?_⟩
  refine ⟨_, rfl, x.t, _, _, _, rfl, rfl, (g3.trans s4) _ _ x1, rfl, z, x.c, x.its, x.its, rfl, rfl, hz, (g3.trans s4) _ _ x2, ?_⟩
  rw [decide_eq_true rfl]
  exact k _ (g3.trans s4)
theorem sc_is_chain_of : FnScope ["bundle", "value", "known", "link"] ["bundle", "value"] (defScope s_is_chain_of) := ⟨rfl, rfl, rfl, by decide +kernel, rfl, by decide +kernel, by decide +kernel⟩
theorem ok_is_chain_of (T : Tx K mg) (C_is_link : CalF P w K mg base ("is_link", none) 4 ["many", "known", "value"] (sp_is_link K)) : CalF P w K mg base ("is_chain_of", none) 5 ["bundle", "value"] (sp_is_chain_of K) := by
  have mg_list : mg "list" = none := T.free 63
  have mg_isinstance : mg "isinstance" = none := T.free 61
  have mg_tuple : mg "tuple" = none := T.free 73
  obtain ⟨fd_is_link, b_is_link, G_is_link, kp_is_link⟩ := C_is_link
  have mg_is_link : mg "is_link" = some (.ref (He.ga K "is_link")) := T.glo 38
  refine calF T (d := d_is_chain_of) 60 rfl sc_is_chain_of rfl rfl (fun _ _ _ _ _ _ us hl => match us, hl with | [_, _], _ => rfl) (len_is_chain_of K) ?_
  intro cdv A outer s H vs Q E hr h
  have hu := hu_of hr
  obtain ⟨v, many, as, a, ls, rfl, B, m1, ha, hls, hne, hll, hpl, hok, k⟩ := h
  obtain ⟨c1, c2⟩ := chain_links hok
  obtain ⟨va, vb, rfl, hva, hvb⟩ := B.bd.at_
  refine ⟨_, (pss_cons (ps_if (PW.pt (pw_or (pt_not (pt_val (pe_callB call_isi2 (by rfl) mg_isinstance bt_isinstance (pa_cons (pv 1) (pa_cons (pe_bltn (v := .ty "tuple") (by rfl) mg_tuple bt_tuple rfl) pa_nil))))) (pw_or1 (pt_cmpR (op_eqL hr.units) (pv 1) (pe_tup pa_nil) (nomark _))))) (pss_one (ps_ret pe_bl)) pss_nil)
      (pss_cons (ps_set (i := 2) sc_is_chain_of.nd rfl (Or.inl rfl) (pe_callTy call_list2 (by rfl) mg_list bt_list (pa_cons (pe_ix ix_tup2 (pv 0) pe_int (fun _ _ => rfl)) pa_nil)))
      (pss_cons (ps_for PassesOwn.never rfl (pi_tupK (K := K) rfl (pv 1)) (pg_name (i := 3) sc_is_chain_of.nd rfl (Or.inl rfl)) (pss_cons (ps_if (pt_not (pt_val (pe_call G_is_link (hr.mono (by decide)) (by rfl) mg_is_link kp_is_link b_is_link .nil pass0 (pa_cons (pe_ix ix_tup2 (pv 0) pe_int (fun _ _ => rfl)) (pa_cons (pv 2) (pa_cons (pv 3) pa_nil)))))) (pss_one (ps_ret pe_bl)) pss_nil)
      (pss_one (ps_expr (pe_bm PySem.F.plainAttrs_list PySem.F.slot_list_append PySem.F.type_list_append mt_append (pv 2) (pa_cons (pe_ix ix_tup2 (pv 3) pe_int (fun _ _ => rfl)) pa_nil))))))
      (pss_one (ps_ret (pe_cmpR (op_eqE hr.units) (pe_ix ix_list2 (pv 2) (pe_un un_neg pe_int) (fun _ _ => rfl)) (pe_tup pa_nil) (nomark _))))))), ?_⟩
  refine ⟨_, rfl, _, _, rfl, .inr (.inl ⟨a, _, rfl, rfl, .inl ⟨ha, _, rfl, iteF ?_⟩⟩)⟩
  refine ⟨_, rfl, Nat.zero_le _, fun e he => ?_⟩
  have g1 := Same.new (o := .tup []) he
  refine ⟨a, e, _, rfl, rfl, g1 _ _ ha, upd_same, ?_, _, rfl, ?_⟩
  · intro v hv
    obtain ⟨x, hx, rfl⟩ := List.mem_map.mp hv
    exact ⟨x, rfl, fun y hy => by rw [List.mem_singleton.mp hy]; exact hls.mono g1 x hx⟩
  have ene : (ls.map lkr).isEmpty = false := by
    cases ls with
    | nil => exact absurd rfl hne
    | cons x r => rfl
  rw [ene]
  refine iteF ?_
  refine ⟨_, rfl, va, _, _, _, rfl, rfl, g1 _ _ hva, rfl, vb, _, rfl, .inr (g1 _ _ hvb), fun k0 hk0 => ?_⟩
  have g2 := Same.new (o := .lst (as.map rf)) hk0
  have g12 := g1.trans g2
  have hk0H : H k0 = none := g1.free hk0
  refine ⟨_, rfl, a, rfl, ⟨_, SqT.of (g12 _ _ ha)⟩, ?_⟩
  refine forA ls (fun σ x => σ.set 3 (some (lkr x))) (wkT ls lkr) (fun σ => yName) (fun don σ H2 => ∃ y, σ = [some (.ref va), some (.ref a), some (.ref k0), y] ∧ Same H H2 ∧ H2 k0 = some (.lst ((as ++ don.map fun x => (x.c, x.its)).map rf)))
    ⟨none, rfl, g12, by rw [List.map_nil, List.append_nil]; exact upd_same⟩ (fun l σ H2 ⟨y, _, s2, _⟩ => SqT.of (s2 _ _ ha)) ?_ ?_
  · rintro don x r σ H2 H3 e ⟨y, rfl, s2, hk2⟩ s3
    have s23 := s2.trans s3
    have hx : x ∈ ls := by rw [e]; exact List.mem_append_right _ List.mem_cons_self
    obtain ⟨x1, x2, x3⟩ := hls x hx
    have em : (as ++ don.map fun x => ((x.c, x.its) : Cl)).map (·.2) = as.map (·.2) ++ (don.map lkd).map (·.1) := by rw [List.map_append, List.map_map, List.map_map]; rfl
    have hlk : linkOk many ((as ++ don.map fun x => ((x.c, x.its) : Cl)).map (·.2)) x.its x.ps = true := by
      rw [em]
      refine linksOk_at (l := don.map lkd) (x := lkd x) (r := r.map lkd) ?_
      rw [e, List.map_append] at c1
      exact c1
    have hcl : ∀ z ∈ as ++ don.map fun x => ((x.c, x.its) : Cl), isCl many z.2 = true := by
      intro z hz
      rcases List.mem_append.mp hz with hz | hz
      · exact B.cl z hz
      · obtain ⟨y, hy, rfl⟩ := List.mem_map.mp hz
        obtain ⟨d1, d2, ed⟩ := List.append_of_mem hy
        rw [e, ed, List.append_assoc, List.map_append] at c1
        have := linksOk_at (l := d1.map lkd) (x := lkd y) (r := (d2 ++ x :: r).map lkd) (by rw [List.cons_append, List.map_cons] at c1; exact c1)
        unfold linkOk at this
        simp only [Bool.and_eq_true] at this
        exact this.1.1.1
    refine ⟨_, rfl, va, _, _, _, rfl, rfl, s23 _ _ hva, rfl, _, rfl, _, rfl, k0, many, _, x, rfl, s3 _ _ hk2, ?_, ?_, B.lo, m1, hcl, hpl x hx, hlk, fun H4 s4 => ?_⟩
    · intro z hz
      rcases List.mem_append.mp hz with hz | hz
      · exact s23 _ _ (B.bd.cls z hz)
      · obtain ⟨y, hy, rfl⟩ := List.mem_map.mp hz
        exact s23 _ _ (hls y (by rw [e]; exact List.mem_append_left _ hy)).2.1
    · intro z hz
      rw [List.mem_singleton.mp hz]
      exact ⟨s23 _ _ x1, s23 _ _ x2, s23 _ _ x3⟩
    · refine ⟨_, rfl, iteF ?_⟩
      have s24 := s23.trans s4
      have hk4 := (s3.trans s4) _ _ hk2
      have hlen : don.length < ls.length := by
        rw [e, List.length_append, List.length_cons]; omega
      refine ⟨_, rfl, .inl ⟨rfl, _, SqL.of hk4⟩, _, rfl, x.t, _, _, _, rfl, rfl, s24 _ _ x1, rfl, k0, _, _, rfl, rfl, hk4, sz_lt (by rw [List.length_map, List.length_append, List.length_map]; have := B.len; omega), ?_⟩
      refine ⟨_, rfl, Same.mut s24 hk0H, ?_⟩
      rw [upd_same, List.map_append, List.map_append, List.map_append, List.map_append, List.append_assoc]
      rfl
  · rintro σ H2 ⟨y, rfl, s2, hk2⟩
    have em : (as ++ ls.map fun x => ((x.c, x.its) : Cl)).map (·.2) = as.map (·.2) ++ (ls.map lkd).map (·.1) := by rw [List.map_append, List.map_map, List.map_map]; rfl
    rw [← em] at c2
    rcases List.eq_nil_or_concat (as ++ ls.map fun x => ((x.c, x.its) : Cl)) with h0 | ⟨L, z, h0⟩
    · rw [h0] at c2; cases c2
    rw [List.concat_eq_append] at h0
    rw [h0, List.map_append] at c2
    have ez : z.2 = [] := by simpa using c2
    have hz : H2 z.1 = some (.tup (z.2.map V.int)) := by
      have : z ∈ as ++ ls.map fun x => ((x.c, x.its) : Cl) := by rw [h0]; exact List.mem_append_right _ List.mem_cons_self
      rcases List.mem_append.mp this with h | h
      · exact s2 _ _ (B.bd.cls z h)
      · obtain ⟨y, hy, rfl⟩ := List.mem_map.mp h
        exact s2 _ _ (hls y hy).2.1
    have hat : atI ((as ++ ls.map fun x => ((x.c, x.its) : Cl)).map rf) (-1) = some (rf z) := by
      rw [h0, List.map_append]
      exact at_last _ _
    refine ⟨_, rfl, _, rfl, k0, _, _, _, rfl, rfl, hk2, hat, Nat.zero_le _, fun e2 he2 => ?_⟩
    have g3 := Same.new (o := .tup []) he2
    refine ⟨z.1, e2, _, rfl, rfl, .inr ⟨g3 _ _ hz, upd_same⟩, dd_ints _, ?_⟩
    rw [ez]
    exact k _ (s2.trans g3)
theorem sc_is_chain : FnScope ["bundle", "value"] ["bundle", "value"] (defScope s_is_chain) := ⟨rfl, rfl, rfl, by decide +kernel, rfl, by decide +kernel, by decide +kernel⟩
theorem ok_is_chain (T : Tx K mg) (C_check_bundle : CalF P w K mg base ("check_bundle", none) 4 ["bundle"] (sp_check_bundle K)) (C_is_chain_of : CalF P w K mg base ("is_chain_of", none) 5 ["bundle", "value"] (sp_is_chain_of K)) : CalF P w K mg base ("is_chain", none) 6 ["bundle", "value"] (sp_is_chain K) := by
  obtain ⟨fd_check_bundle, b_check_bundle, G_check_bundle, kp_check_bundle⟩ := C_check_bundle
  obtain ⟨fd_is_chain_of, b_is_chain_of, G_is_chain_of, kp_is_chain_of⟩ := C_is_chain_of
  have mg_check_bundle : mg "check_bundle" = some (.ref (He.ga K "check_bundle")) := T.glo 5
  have mg_is_chain_of : mg "is_chain_of" = some (.ref (He.ga K "is_chain_of")) := T.glo 39
  refine calF T (d := d_is_chain) 61 rfl sc_is_chain rfl rfl (fun _ _ _ _ _ _ us hl => match us, hl with | [_, _], _ => rfl) (len_is_chain K) ?_
  intro cdv A outer s H vs Q E hr h
  have hu := hu_of hr
  obtain ⟨v, many, as, a, ls, rfl, B, m1, ha, hls, hne, hll, hpl, hok, k⟩ := h
  refine ⟨_, (pss_cons (ps_expr (pe_call G_check_bundle (hr.mono (by decide)) (by rfl) mg_check_bundle kp_check_bundle b_check_bundle .nil pass0 (pa_cons (pv 0) pa_nil)))
      (pss_one (ps_ret (pe_call G_is_chain_of (hr.mono (by decide)) (by rfl) mg_is_chain_of kp_is_chain_of b_is_chain_of .nil pass0 (pa_cons (pv 0) (pa_cons (pv 1) pa_nil)))))), ?_⟩
  refine ⟨_, rfl, v, many, as, rfl, B.bd, B.ok, fun H1 s1 => ?_⟩
  exact ⟨_, rfl, _, rfl, v, many, as, a, ls, rfl, B.mono s1, m1, s1 _ _ ha, hls.mono s1, hne, hll, hpl, hok, fun H2 s2 => k H2 (s1.trans s2)⟩
end
end Nt
set_option maxRecDepth 100000
set_option maxHeartbeats 2000000
/-! NtT3: rows of units. -/
namespace Nt
open PySem PySem.Spec PyProof.Rows L2
def WN (W : List Nat) : List V := (W.map fun (q : Nat) => (q : Int)).map V.int
def sgN (as : List Cl) : List Nat := (as.zipIdx.filter fun p => decide (p.1.2.length < 2)).map (·.2)
def occN (l : Int) (as : List Cl) : List Nat := (as.zipIdx.filter fun p => decide (l ∈ p.1.2)).map (·.2)
theorem sgN_v (as : List Cl) : (sgP as).map (fun x => V.int x.1) = WN (sgN as) := by
  unfold sgP WN sgN
  rw [List.map_map, List.map_map, List.map_map]; rfl
theorem occN_v (l : Int) (as : List Cl) : (occ l (as.map (·.2))).map V.int = WN (occN l as) := by
  rw [← occP_fst]
  unfold occP WN occN
  rw [List.map_map, List.map_map, List.map_map, List.map_map]; rfl
theorem mem_sgN {as : List Cl} {q : Nat} : q ∈ sgN as ↔ ∃ c, as[q]? = some c ∧ c.2.length < 2 := by
  unfold sgN
  rw [List.mem_map]
  constructor
  · rintro ⟨⟨c, j⟩, h, rfl⟩
    rw [List.mem_filter] at h
    exact ⟨c, List.mem_zipIdx_iff_getElem?.mp h.1, of_decide_eq_true h.2⟩
  · rintro ⟨c, h1, h2⟩
    exact ⟨(c, q), List.mem_filter.mpr ⟨List.mem_zipIdx_iff_getElem?.mpr h1, decide_eq_true h2⟩, rfl⟩
theorem mem_occN {l : Int} {as : List Cl} {q : Nat} : q ∈ occN l as ↔ ∃ c, as[q]? = some c ∧ l ∈ c.2 := by
  unfold occN
  rw [List.mem_map]
  constructor
  · rintro ⟨⟨c, j⟩, h, rfl⟩
    rw [List.mem_filter] at h
    exact ⟨c, List.mem_zipIdx_iff_getElem?.mp h.1, of_decide_eq_true h.2⟩
  · rintro ⟨c, h1, h2⟩
    exact ⟨(c, q), List.mem_filter.mpr ⟨List.mem_zipIdx_iff_getElem?.mpr h1, decide_eq_true h2⟩, rfl⟩
theorem sgN_len (as : List Cl) : (sgN as).length ≤ as.length := by
  unfold sgN
  rw [List.length_map]
  refine Nat.le_trans (List.length_filter_le _ _) ?_
  rw [List.length_zipIdx]
  exact Nat.le_refl _
theorem occN_len (l : Int) (as : List Cl) : (occN l as).length ≤ as.length := by
  unfold occN
  rw [List.length_map]
  refine Nat.le_trans (List.length_filter_le _ _) ?_
  rw [List.length_zipIdx]
  exact Nat.le_refl _
theorem WN_app (xs ys : List Nat) : WN xs ++ WN ys = WN (xs ++ ys) := by unfold WN; rw [List.map_append, List.map_append]
theorem WN_len (xs : List Nat) : (WN xs).length = xs.length := by unfold WN; rw [List.length_map, List.length_map]
theorem mergeT_nodup : ∀ (gs S : List Int), (S ++ gs).Nodup → mergeK (S.map fun l => ((Sum.inl l : Key), V.bl true)) (gs.map fun l => ((Sum.inl l : Key), V.bl true)) = (S ++ gs).map fun l => ((Sum.inl l : Key), V.bl true)
  | [], S, _ => by rw [List.append_nil]; rfl
  | g :: gs, S, h => by
    show mergeK (putK _ (Sum.inl g) (V.bl true)) _ = _
    have hg : g ∉ S := fun z => (List.nodup_append.mp h).2.2 g z g List.mem_cons_self rfl
    rw [putK_true hg, mergeT_nodup gs (S ++ [g]) (by rw [List.append_assoc]; exact h), List.append_assoc]
    rfl
abbrev Rwh := Addr × (Int × Nat)
def rwr (x : Rwh) : V := .ref x.1
def RWs (H : Hp) (rs : List Rwh) : Prop := ∀ x ∈ rs, H x.1 = some (.tup [.int x.2.1, .int ((x.2.2 : Nat) : Int)])
theorem RWs.mono {H H' : Hp} {rs : List Rwh} (h : RWs H rs) (s : Same H H') : RWs H' rs := fun x hx => s _ _ (h x hx)
def ov (o : Option Nat) : V := match o with
  | none => .non
  | some q => .int (q : Nat)
def sp_Traced_trace (K : PySem.W.Frag) : Sp := fun vs H Q _ => ∃ (p g : Addr) (H0 : Hp) (many : Int) (as : List Cl) (gs : List Int), vs = [.ref p, .ref g] ∧ TAt K H0 H p many as ∧ H g = some (.lst (gs.map V.int)) ∧ (∀ l ∈ gs, InR many l) ∧ (∀ l ∈ gs, -l ∉ gs) ∧ gs.Nodup ∧ gs.length ≤ 100 ∧
  ∀ H' t r rs o, Same H H' → H' t = some (.tup [ov o, .ref r]) → H' r = some (.lst (rs.map rwr)) → RWs H' rs → rs.length ≤ 61 → TrOk (as.map (·.2)) gs (rs.map (·.2)) o → Q (.ref t) H'
theorem len_Traced_trace (K : PySem.W.Frag) : ∀ vs H Q E, sp_Traced_trace K vs H Q E → vs.length = 2 := by
  rintro vs H Q E ⟨p, g, H0, many, as, gs, rfl, _⟩; rfl
section
variable {P : Program} {w : World} {K : PySem.W.Frag} {mg : Str → Option Value} {base : Heap}
theorem sc_Traced_trace : FnScope ["self", "given", "sure", "rows", "one", "waiting", "place", "left"] ["self", "given"] (defScope s_Traced_trace) := ⟨rfl, rfl, rfl, by decide +kernel, rfl, by decide +kernel, by decide +kernel⟩
theorem ok_Traced_trace (T : Tx K mg) (C_Traced_left_of : CalF P w K mg base ("Traced", some "left_of") 1 ["self", "clause", "sure"] (sp_Traced_left_of K)) : CalF P w K mg base ("Traced", some "trace") 2 ["self", "given"] (sp_Traced_trace K) := by
  have mg_dict : mg "dict" = none := T.free 58
  have mg_len : mg "len" = none := T.free 62
  obtain ⟨fd_Traced_left_of, b_Traced_left_of, G_Traced_left_of, kp_Traced_left_of⟩ := C_Traced_left_of
  have mt_Traced_left_of : Meth K (He.ga K "Traced") "left_of" (He.ma K (He.ga K "Traced") "left_of") := T.meth 122
  have cl_Traced : Cls K (He.ga K "Traced") := T.cls 116
  have no_Traced_single : NoAttr K (He.ga K "Traced") "single" := T.noat 125
  have no_Traced_clauses : NoAttr K (He.ga K "Traced") "clauses" := T.noat 124
  have no_Traced_by : NoAttr K (He.ga K "Traced") "by" := T.noat 123
  refine calF T (d := d_Traced_trace) 49 rfl sc_Traced_trace rfl rfl (fun _ _ _ _ _ _ us hl => match us, hl with | [_, _], _ => rfl) (len_Traced_trace K) ?_
  intro cdv A outer s H vs Q E hr h
  have hu := hu_of hr
  obtain ⟨p, g, H0, many, as, gs, rfl, U, hg, hgr, hgc, hgn, hgl, k⟩ := h
  obtain ⟨dx, a, b, c, kvs, n1, n2, n3, n4, nac, hp, ha, hc, B⟩ := U.own
  have hi := U.hi
  have lo := U.lo
  have hlen := U.len
  refine ⟨_, (pss_cons (ps_par (i := 2) (j := 3) (by rfl) sc_Traced_trace.nd rfl rfl (by decide) rfl rfl (pa_cons (pe_callTy (call_dictP rfl) (by rfl) mg_dict bt_dict (pa_cons (pe_lc (own := [("one", 4)]) (g := gName 4) (tt := tYes) rfl sc_Traced_trace.nd (pi_listK (K := K) rfl (pv 1)) (blkOk_by (by kernel_rfl)) (fun _ _ _ _ _ => (pg_name (i := 4) sc_Traced_trace.nd rfl (Or.inl rfl))) (fun _ _ _ _ _ => pts_nil) (fun _ _ _ _ _ => (pe_tup (pa_cons (pv 4) (pa_cons pe_bl pa_nil))))) pa_nil)) (pa_cons (pe_lst pa_nil) pa_nil)) (by rfl))
      (pss_cons (ps_setLc (i := 5) (own := [("place", 6)]) (g := gName 6) (tt := tYes) rfl sc_Traced_trace.nd rfl rfl (sw_true rfl rfl rfl (by decide +kernel)) (pi_listK (K := K) rfl (pe_fld2 cl_Traced no_Traced_single (pv 0))) (blkOk_by (by kernel_rfl)) (fun _ _ _ _ _ => (pg_name (i := 6) sc_Traced_trace.nd rfl (Or.inl rfl))) (fun _ _ _ _ _ => pts_nil) (fun _ _ _ _ _ => (pv 6)))
      (pss_cons (ps_for PassesOwn.never rfl (pi_listK (K := K) rfl (pv 1)) (pg_name (i := 4) sc_Traced_trace.nd rfl (Or.inl rfl)) (pss_one (ps_expr (pe_bm PySem.F.plainAttrs_list PySem.F.slot_list_extend PySem.F.type_list_extend mt_extend (pv 5) (pa_cons (pe_dget2 hu (pe_fld2 cl_Traced no_Traced_by (pv 0)) (pe_op op_sub pe_int (pv 4)) (pe_lst pa_nil) ⟨rfl, rfl, rfl, rfl⟩) pa_nil)))))
      (pss_cons (ps_while PassesOwn.never (pt_cmpR (op_neE hr.units) (pv 5) (pe_lst pa_nil) (nomark _)) (pss_cons (ps_set (i := 6) sc_Traced_trace.nd rfl (Or.inl rfl) (pe_bm0 PySem.F.plainAttrs_list PySem.F.slot_list_pop PySem.F.type_list_pop mt_pop (pv 5)))
      (pss_cons (ps_set (i := 7) sc_Traced_trace.nd rfl (Or.inl rfl) (pe_meth (pv 0) cl_Traced mt_Traced_left_of G_Traced_left_of (hr.mono (by decide)) b_Traced_left_of .nil pass0 (pa_cons (pe_ix ix_list2 (pe_fld2 cl_Traced no_Traced_clauses (pv 0)) (pv 6) (fun _ _ => rfl)) (pa_cons (pv 2) pa_nil))))
      (pss_cons (ps_if (pt_cmpR (op_eqO hr.units) (pv 7) (pe_lst pa_nil) (nomark _)) (pss_one (ps_ret (pe_tup (pa_cons (pv 6) (pa_cons (pv 3) pa_nil))))) pss_nil)
      (pss_one (ps_if (PW.pt (pw_and (pt_cmpR op_notN (pv 7) pe_non (nomark _)) (pw_and1 (pt_cmpR op_eq (pe_callB call_len2 (by rfl) mg_len bt_len (pa_cons (pv 7) pa_nil)) pe_int (nomark _))))) (pss_cons (ps_dput hu (pv 2) (pe_ix ix_list2 (pv 7) pe_int (fun _ _ => rfl)) pe_bl rfl)
      (pss_cons (ps_expr (pe_bm PySem.F.plainAttrs_list PySem.F.slot_list_append PySem.F.type_list_append mt_append (pv 3) (pa_cons (pe_tup (pa_cons (pe_ix ix_list2 (pv 7) pe_int (fun _ _ => rfl)) (pa_cons (pv 6) pa_nil))) pa_nil)))
      (pss_one (ps_expr (pe_bm PySem.F.plainAttrs_list PySem.F.slot_list_extend PySem.F.type_list_extend mt_extend (pv 5) (pa_cons (pe_dget2 hu (pe_fld2 cl_Traced no_Traced_by (pv 0)) (pe_op op_sub pe_int (pe_ix ix_list2 (pv 7) pe_int (fun _ _ => rfl))) (pe_lst pa_nil) ⟨rfl, rfl, rfl, rfl⟩) pa_nil)))))) pss_nil))))))
      (pss_one (ps_ret (pe_tup (pa_cons pe_non (pa_cons (pv 3) pa_nil))))))))), ?_⟩
  refine ⟨_, rfl, g, rfl, ⟨_, SqL.of hg⟩, ?_⟩
  refine lcT0 gs _ (wkL gs V.int) yName (fun l => [.int l, .bl true]) (by omega) (by intro _; rfl) (fun H h => SqL.of (h _ _ hg)) ?_ ?_
  · intro l hl H1 s1 Qe q
    exact ⟨_, rfl, by show 2 ≤ sizeLine; decide, fun t ht => q t _ (Same.new ht) upd_same⟩
  intro D H1 ys _ s1 h1 hpr
  obtain ⟨ps, rfl, hps⟩ := paired_dict (K := K) (f := fun l : Int => (Sum.inl l : Key)) (v := fun _ => V.bl true) hpr
  refine ⟨D, ps, _, rfl, SqL.of h1, hps, fun d hd => ⟨Nat.zero_le _, fun r hr => ⟨_, _, rfl, ?_⟩⟩⟩
  have em : mergeK [] (gs.map fun l => ((Sum.inl l : Key), V.bl true)) = gs.map fun l => ((Sum.inl l : Key), V.bl true) := mergeT_nodup gs [] hgn
  rw [em] at hr ⊢
  have g1 := Same.new (o := .dK (gs.map fun l => ((Sum.inl l : Key), V.bl true))) hd
  have g2 := Same.new (o := .lst []) hr
  have hd2 := g2 _ _ (upd_same (H := H1) (a := d) (o := .dK (gs.map fun l => ((Sum.inl l : Key), V.bl true))))
  have hr2 : upd (upd H1 d (.dK (gs.map fun l => ((Sum.inl l : Key), V.bl true)))) r (.lst []) r = some (.lst []) := upd_same
  have s2 := s1.trans (g1.trans g2)
  have nd : H d = none := s1.free hd
  have nr : H r = none := (s1.trans g1).free hr
  generalize upd (upd H1 d (.dK (gs.map fun l => ((Sum.inl l : Key), V.bl true)))) r (.lst []) = H2 at hd2 hr2 s2
  refine ⟨_, rfl, _, _, _, _, rfl, s2 _ _ hp, rfl, c, rfl, ⟨_, SqL.of (s2 _ _ hc)⟩, ?_⟩
  refine lcV0 (sgP as) _ (wkL (sgP as) fun x => .int x.1) yName (fun x => .int x.1) (Nat.le_trans (sgP_len as) hlen) (by intro _; rfl) (fun H h => SqL.of (h _ _ (s2 _ _ hc))) ?_ ?_
  · intro x hx H3 s3 Qe q
    exact ⟨_, rfl, q _ (Same.refl _)⟩
  intro ww H3 hww2 s3 hw3
  rw [sgN_v] at hw3
  have hww : H ww = none := s2.free hww2
  have s03 := s2.trans s3
  have getBy : ∀ (l : Int) (H' : Hp) (e : Addr), Same H H' → H' e = none → ∃ bq, (valV kvs (.inl l)).getD (.ref e) = .ref bq ∧ upd H' e (.lst []) bq = some (.lst (WN (occN l as))) := by
    intro l H' e s he
    rcases B.get l with ⟨h1, h2⟩ | ⟨bq, h1, h2, h3, _⟩
    · refine ⟨e, by rw [h1]; rfl, ?_⟩
      rw [← occN_v, h2]; exact upd_same
    · refine ⟨bq, by rw [h1]; rfl, ?_⟩
      rw [← occN_v]; exact Same.new he _ _ (s _ _ h2)
  have occ_lt : ∀ l q, q ∈ occN l as → q < (as.map (·.2)).length := fun l q h => by
    obtain ⟨z, h1, _⟩ := mem_occN.mp h
    rw [List.length_map]; exact (List.getElem?_eq_some_iff.mp h1).1
  have big : sizeLine = 16777216 := rfl
  refine ⟨_, rfl, g, rfl, ⟨_, SqL.of (s03 _ _ hg)⟩, ?_⟩
  refine forA gs (fun σ l => σ.set 4 (some (.int l))) (wkL gs V.int) (fun σ => yName) (fun don σ H4 => ∃ W x, σ = [some (.ref p), some (.ref g), some (.ref d), some (.ref r), x, some (.ref ww), none, none] ∧ Same H2 H4 ∧ H4 ww = some (.lst (WN W)) ∧ (∀ q ∈ W, q < (as.map (·.2)).length) ∧ (∀ q ∈ sgN as, q ∈ W) ∧ (∀ l ∈ don, ∀ q ∈ occN (-l) as, q ∈ W) ∧ W.length ≤ as.length * (don.length + 1))
    ⟨sgN as, none, rfl, s3, hw3, fun q h => by
      obtain ⟨z, h1, _⟩ := mem_sgN.mp h
      rw [List.length_map]; exact (List.getElem?_eq_some_iff.mp h1).1, fun q h => h, fun _ h => (nomatch h), by have := sgN_len as; simp; omega⟩ (fun l σ H4 ⟨W, x, _, s4, _⟩ => SqL.of (s4 _ _ (s2 _ _ hg))) ?_ ?_
  · rintro don l r2 σ H4 H5 e ⟨W, x, rfl, s4, hw4, w1, w2, w3, w4⟩ s5
    have s25 := s4.trans s5
    have s05 := s2.trans s25
    have hw5 := s5 _ _ hw4
    refine ⟨_, rfl, .inl ⟨rfl, _, SqL.of hw5⟩, _, rfl, _, _, _, _, rfl, s05 _ _ hp, rfl, b, rfl, .inl ⟨_, .inl (s05 _ _ B.at_)⟩, _, rfl, _, _, rfl, rfl, Nat.zero_le _, fun e2 he2 => ?_⟩
    have g6 := Same.new (o := .lst []) he2
    obtain ⟨bq, hb1, hb2⟩ := getBy (0 - l) H5 e2 s05 he2
    refine ⟨_, DGet.k (k := .inl (0 - l)) (g6 _ _ (s05 _ _ B.at_)), ?_⟩
    rw [hb1]
    have ol := occN_len (0 - l) as
    have hdl : don.length < 100 := by
      have := congrArg List.length e
      rw [List.length_append, List.length_cons] at this
      omega
    have wl : W.length ≤ as.length * 100 := Nat.le_trans w4 (Nat.mul_le_mul_left _ (by omega))
    refine ⟨ww, bq, _, _, rfl, rfl, g6 _ _ hw5, hb2, (by rw [WN_len, WN_len]; omega), ?_⟩
    rw [WN_app]
    refine ⟨W ++ occN (0 - l) as, _, rfl, Same.mut (s25.trans g6) hww2, upd_same, ?_, ?_, ?_, ?_⟩
    · intro q hq
      rcases List.mem_append.mp hq with h | h
      · exact w1 q h
      · exact occ_lt _ q h
    · exact fun q hq => List.mem_append_left _ (w2 q hq)
    · intro m hm q hq
      rcases List.mem_append.mp hm with h | h
      · exact List.mem_append_left _ (w3 m h q hq)
      · rw [List.mem_singleton.mp h, ← Int.zero_sub] at hq
        exact List.mem_append_right _ hq
    · rw [List.length_append, List.length_append]
      show _ ≤ as.length * (don.length + 1 + 1)
      rw [Nat.mul_add as.length (don.length + 1) 1, Nat.mul_one]
      omega
  rintro σ H4 ⟨W0, x0, rfl, s4, hw4, w1, w2, w3, w4⟩
  have I0 : TrI (as.map (·.2)) gs [] W0 := TrI.start (fun c hc => by
      obtain ⟨y, hy, rfl⟩ := List.mem_map.mp hc
      exact pw_nodup (isCl_iff.mp (U.cl y hy)).2) hgc w1 (fun q c hc hl => by
      rw [List.getElem?_map] at hc
      obtain ⟨y, h1, rfl⟩ := Option.map_eq_some_iff.mp hc
      exact w2 q (mem_sgN.mpr ⟨y, h1, hl⟩)) (fun q c hc gl hgl hm => by
      rw [List.getElem?_map] at hc
      obtain ⟨y, h1, rfl⟩ := Option.map_eq_some_iff.mp hc
      exact w3 gl hgl q (mem_occN.mpr ⟨y, h1, hm⟩))
  have w5 : W0.length ≤ as.length * 101 := Nat.le_trans w4 (Nat.mul_le_mul_left _ (by omega))
  have s04 := s2.trans s4
  have hrw : r ≠ ww := ne_of_none hr2 hww2
  have hdw : d ≠ ww := ne_of_none hd2 hww2
  have hdr : d ≠ r := ne_of hd2 hr2 (by intro z; cases z)
  have inR : ∀ c ∈ as.map (·.2), ∀ l ∈ c, InR many l := fun c hc l hl => by
    obtain ⟨y, hy, rfl⟩ := List.mem_map.mp hc
    exact (isCl_iff.mp (U.cl y hy)).1 l hl
  refine ⟨fun m σ H5 => ∃ rs W x4 x6 x7, σ = [some (.ref p), some (.ref g), some (.ref d), some (.ref r), x4, some (.ref ww), x6, x7] ∧ Same H H5 ∧ H5 d = some (.dK ((gs ++ (rs.map (·.2)).map (·.1)).map fun l => ((Sum.inl l : Key), V.bl true))) ∧ H5 r = some (.lst (rs.map rwr)) ∧ RWs H5 rs ∧ H5 ww = some (.lst (WN W)) ∧ TrI (as.map (·.2)) gs (rs.map (·.2)) W ∧ m = (61 - rs.length) * (as.length + 1) + W.length ∧ W.length ≤ as.length * (101 + rs.length) ∧ rs.length ≤ 61,
    ⟨_, [], W0, x0, none, none, rfl, s04, by rw [List.map_nil, List.map_nil, List.append_nil]; exact s4 _ _ hd2, s4 _ _ hr2, (fun _ h => nomatch h), hw4, I0, rfl, by simpa using w5, Nat.zero_le _⟩, ?_⟩
  rintro m σ H5 ⟨rs, W, x4, x6, x7, rfl, s5, hd5, hr5, hrs5, hw5, I, rfl, hWl, hrl⟩
  refine ⟨_, rfl, Nat.zero_le _, fun e he => ?_⟩
  have se := Same.new (o := .lst []) he
  refine ⟨ww, e, _, rfl, rfl, .inl ⟨se _ _ hw5, upd_same⟩, dd_ints _, _, rfl, ?_⟩
  rcases List.eq_nil_or_concat W with rfl | ⟨W', q0, rfl⟩
  · refine iteF ?_
    refine ⟨_, rfl, by show 2 ≤ sizeLine; decide, fun t ht => ?_⟩
    have st := Same.new (o := .tup [.non, .ref r]) ht
    exact k _ t r rs none (s5.trans (se.trans st)) upd_same ((se.trans st) _ _ hr5) (hrs5.mono (se.trans st)) hrl I.done
  rw [List.concat_eq_append] at hw5 I hWl ⊢
  have ene : (!(WN (W' ++ [q0])).isEmpty) = true := by unfold WN; simp
  rw [ene]
  refine iteT ⟨_, fun _ _ h => h, ?_⟩
  obtain ⟨c0, hc0⟩ : ∃ c0, as[q0]? = some c0 := by
    have := I.win q0 (List.mem_append_right _ List.mem_cons_self)
    rw [List.length_map] at this
    exact ⟨_, List.getElem?_eq_getElem this⟩
  have hcs : (as.map (·.2))[q0]? = some c0.2 := by rw [List.getElem?_map, hc0]; rfl
  have c0m : c0 ∈ as := List.mem_of_getElem? hc0
  have hc0H := U.same _ _ (U.cls c0 c0m)
  have hnd := pw_nodup (isCl_iff.mp (U.cl c0 c0m)).2
  have hl100 : c0.2.length ≤ 100 := Nat.le_trans (isCl_len lo (U.cl c0 c0m)) (by omega)
  refine ⟨_, rfl, .inl ⟨rfl, _, SqL.of (se _ _ hw5)⟩, ww, _, .int (q0 : Nat), rfl, rfl, se _ _ hw5, by unfold WN; simp, ?_⟩
  have edl : (WN (W' ++ [q0])).dropLast = WN W' := by unfold WN; simp
  rw [edl]
  have S4 : Same H (upd (upd H5 e (.lst [])) ww (.lst (WN W'))) := Same.mut (s5.trans se) hww
  have keepx : ∀ x o, x ≠ ww → H5 x = some o → upd (upd H5 e (.lst [])) ww (.lst (WN W')) x = some o := fun x o n h => by rw [upd_ne n]; exact se _ _ h
  have hd6 := keepx _ _ hdw hd5
  have hr6 := keepx _ _ hrw hr5
  have hrs6 : RWs (upd (upd H5 e (.lst [])) ww (.lst (WN W'))) rs := fun x hx => keepx _ _ (ne_of (hrs5 x hx) hw5 (by intro z; cases z)) (hrs5 x hx)
  have hw6 : upd (upd H5 e (.lst [])) ww (.lst (WN W')) ww = some (.lst (WN W')) := upd_same
  generalize upd (upd H5 e (.lst [])) ww (.lst (WN W')) = H6 at S4 hd6 hr6 hrs6 hw6
  have hWl' : W'.length + 1 ≤ as.length * (101 + rs.length) := by rw [List.length_append] at hWl; exact hWl
  have drop : Quiet (gs ++ (rs.map (·.2)).map (·.1)) c0.2 → ∀ x4 x6 x7 H', Same H H' → H' d = some (.dK ((gs ++ (rs.map (·.2)).map (·.1)).map fun l => ((Sum.inl l : Key), V.bl true))) → H' r = some (.lst (rs.map rwr)) → RWs H' rs → H' ww = some (.lst (WN W')) →
      ∃ m', m' < (61 - rs.length) * (as.length + 1) + (W' ++ [q0]).length ∧ ∃ rs2 W2 y4 y6 y7, [some (V.ref p), some (.ref g), some (.ref d), some (.ref r), x4, some (.ref ww), x6, x7] = [some (.ref p), some (.ref g), some (.ref d), some (.ref r), y4, some (.ref ww), y6, y7] ∧ Same H H' ∧ H' d = some (.dK ((gs ++ (rs2.map (·.2)).map (·.1)).map fun l => ((Sum.inl l : Key), V.bl true))) ∧ H' r = some (.lst (rs2.map rwr)) ∧ RWs H' rs2 ∧ H' ww = some (.lst (WN W2)) ∧ TrI (as.map (·.2)) gs (rs2.map (·.2)) W2 ∧ m' = (61 - rs2.length) * (as.length + 1) + W2.length ∧ W2.length ≤ as.length * (101 + rs2.length) ∧ rs2.length ≤ 61 := by
    intro q x4 x6 x7 H' h1 h2 h3 h4 h5
    exact ⟨_, by simp, rs, W', x4, x6, x7, rfl, h1, h2, h3, h4, h5, I.drop hcs q, rfl, by omega, hrl⟩
  have hix := at_cls hc0
  refine ⟨_, rfl, p, _, _, rfl, S4 _ _ hp, rfl, _, rfl, _, _, _, _, rfl, S4 _ _ hp, rfl, _, rfl, a, _, _, _, rfl, rfl, S4 _ _ ha, hix, _, rfl, .ref p, c0.1, d, c0.2, gs ++ (rs.map (·.2)).map (·.1), _, rfl, S4 _ _ hc0H, hl100, hd6, valV_true _, fun hn H7 s7 => ?_, fun rr hrr H7 q s7 hq0 hq => ?_⟩
  · refine ⟨_, rfl, Nat.zero_le _, fun e2 he2 => ?_⟩
    have se2 := Same.new (o := .lst []) he2
    refine ⟨e2, rfl, upd_same, .inl ⟨rfl, _, rfl, iteF ?_⟩⟩
    refine ⟨_, rfl, rfl, _, rfl, iteF (iteF ?_)⟩
    have s8 := s7.trans se2
    exact drop (leftOf_none hn) _ _ _ _ (S4.trans s8) (s8 _ _ hd6) (s8 _ _ hr6) (hrs6.mono s8) (s8 _ _ hw6)
  refine ⟨_, rfl, Nat.zero_le _, fun e2 he2 => ?_⟩
  have se2 := Same.new (o := .lst []) he2
  have s8 := s7.trans se2
  have hq8 := se2 _ _ hq
  have S8 := S4.trans s8
  refine ⟨e2, rfl, upd_same, .inr ⟨q, _, rfl, hq8, dd_ints rr, _, rfl, ?_⟩⟩
  have hd8 := s8 _ _ hd6
  have hr8 := s8 _ _ hr6
  have hrs8 := hrs6.mono s8
  have hw8 := s8 _ _ hw6
  generalize upd H7 e2 (.lst []) = H8 at hq8 S8 hd8 hr8 hrs8 hw8
  match rr, hrr, hq8 with
  | [], hrr, hq8 =>
    refine iteT ?_
    refine ⟨_, rfl, _, rfl, by show 2 ≤ sizeLine; decide, fun t ht => ?_⟩
    have st := Same.new (o := .tup [.int (q0 : Nat), .ref r]) ht
    exact k _ t r rs (some q0) (S8.trans st) upd_same (st _ _ hr8) (hrs8.mono st) hrl (I.ends hcs (leftOf_nil hrr))
  | x :: y :: r3, hrr, hq8 =>
    refine iteF ?_
    refine ⟨_, rfl, rfl, _, rfl, iteT ⟨_, rfl, q, _, rfl, .inl hq8, rfl, _, rfl, ?_⟩⟩
    rw [dec_int, decide_eq_false (by simp; omega)]
    refine iteF ?_
    exact drop (leftOf_two hnd hrr (by simp)) _ _ _ _ S8 hd8 hr8 hrs8 hw8
  | [l], hrr, hq8 =>
    refine iteF ?_
    refine ⟨_, rfl, rfl, _, rfl, iteT ⟨_, rfl, q, _, rfl, .inl hq8, rfl, _, rfl, iteT ?_⟩⟩
    obtain ⟨f1, f2, f3, f4⟩ := leftOf_one hrr
    have I2 : TrI (as.map (·.2)) gs (rs.map (·.2) ++ [(l, q0)]) (W' ++ occN (0 - l) as) := I.add hcs (inR _ (List.mem_of_getElem? hcs) l f1).1 f1 f2 f3 f4 (fun x hx => occ_lt _ x hx) fun x dd hx hm => by
      rw [List.getElem?_map] at hx
      obtain ⟨y, h1, rfl⟩ := Option.map_eq_some_iff.mp hx
      exact mem_occN.mpr ⟨y, h1, by rw [Int.zero_sub]; exact hm⟩
    have hrl2 : rs.length + 1 ≤ 61 := by
      have := len_lits lo I2.nd fun z hz => by
        obtain ⟨⟨z1, z2⟩, hz1, rfl⟩ := List.mem_map.mp hz
        obtain ⟨i, hi2⟩ := List.getElem?_of_mem hz1
        obtain ⟨cc, e1, e2, _⟩ := I2.row i z1 z2 hi2
        exact inR _ (List.mem_of_getElem? e1) _ e2
      rw [List.length_map, List.length_append, List.length_map] at this
      simp at this
      omega
    refine ⟨_, rfl, _, rfl, q, _, 0, .int l, rfl, rfl, hq8, rfl, d, _, rfl, DPut.k (k := .inl l) hd8 (by rw [List.length_map, List.length_append, List.length_map, List.length_map]; exact sz_lt (by omega)), ?_⟩
    rw [putK_true f2]
    have hqd := ne_of hq8 hd8 (by intro z; cases z)
    have hq9 : upd H8 d (.dK ((gs ++ (rs.map (·.2)).map (·.1) ++ [l]).map fun l => ((Sum.inl l : Key), V.bl true))) q = some (.lst ([l].map V.int)) := by rw [upd_ne hqd]; exact hq8
    have S9 : Same H (upd H8 d (.dK ((gs ++ (rs.map (·.2)).map (·.1) ++ [l]).map fun l => ((Sum.inl l : Key), V.bl true)))) := Same.mut S8 nd
    have hr9 : upd H8 d (.dK ((gs ++ (rs.map (·.2)).map (·.1) ++ [l]).map fun l => ((Sum.inl l : Key), V.bl true))) r = some (.lst (rs.map rwr)) := by rw [upd_ne hdr.symm]; exact hr8
    have hw9 : upd H8 d (.dK ((gs ++ (rs.map (·.2)).map (·.1) ++ [l]).map fun l => ((Sum.inl l : Key), V.bl true))) ww = some (.lst (WN W')) := by rw [upd_ne hdw.symm]; exact hw8
    have hrs9 : RWs (upd H8 d (.dK ((gs ++ (rs.map (·.2)).map (·.1) ++ [l]).map fun l => ((Sum.inl l : Key), V.bl true)))) rs := fun x hx => by rw [upd_ne (ne_of (hrs8 x hx) hd8 (by intro z; cases z))]; exact hrs8 x hx
    have hd9 : upd H8 d (.dK ((gs ++ (rs.map (·.2)).map (·.1) ++ [l]).map fun l => ((Sum.inl l : Key), V.bl true))) d = some (.dK ((gs ++ (rs.map (·.2)).map (·.1) ++ [l]).map fun l => ((Sum.inl l : Key), V.bl true))) := upd_same
    generalize upd H8 d (.dK ((gs ++ (rs.map (·.2)).map (·.1) ++ [l]).map fun l => ((Sum.inl l : Key), V.bl true))) = H9 at hq9 S9 hr9 hw9 hrs9 hd9
    refine ⟨_, rfl, .inl ⟨rfl, _, SqL.of hr9⟩, _, rfl, q, _, 0, .int l, rfl, rfl, hq9, rfl, _, rfl, by show 2 ≤ sizeLine; decide, fun t ht => ?_⟩
    have gt := Same.new (o := .tup [.int l, .int (q0 : Nat)]) ht
    refine ⟨r, _, _, rfl, rfl, gt _ _ hr9, sz_lt (by rw [List.length_map]; omega), ?_⟩
    have etr : rs.map rwr ++ [V.ref t] = (rs ++ [((t, (l, q0)) : Rwh)]).map rwr := by rw [List.map_append]; rfl
    rw [etr]
    have htr : t ≠ r := (ne_of_none hr9 ht).symm
    have S10 : Same H (upd (upd H9 t (.tup [.int l, .int (q0 : Nat)])) r (.lst ((rs ++ [((t, (l, q0)) : Rwh)]).map rwr))) := Same.mut (S9.trans gt) nr
    have kp : ∀ x o, x ≠ r → H9 x = some o → upd (upd H9 t (.tup [.int l, .int (q0 : Nat)])) r (.lst ((rs ++ [((t, (l, q0)) : Rwh)]).map rwr)) x = some o := fun x o n h => by rw [upd_ne n]; exact gt _ _ h
    have hrq : q ≠ r := (ne_of_none hr6 hq0).symm
    have hq10 := kp _ _ hrq hq9
    have hw10 := kp _ _ hrw.symm hw9
    have hd10 := kp _ _ hdr hd9
    have hrs10 : RWs (upd (upd H9 t (.tup [.int l, .int (q0 : Nat)])) r (.lst ((rs ++ [((t, (l, q0)) : Rwh)]).map rwr))) (rs ++ [((t, (l, q0)) : Rwh)]) := fun x hx => by
      rcases List.mem_append.mp hx with hx | hx
      · exact kp _ _ (ne_of (hrs9 x hx) hr9 (by intro z; cases z)) (hrs9 x hx)
      · rw [List.mem_singleton.mp hx, upd_ne htr]; exact upd_same
    have hr10 : upd (upd H9 t (.tup [.int l, .int (q0 : Nat)])) r (.lst ((rs ++ [((t, (l, q0)) : Rwh)]).map rwr)) r = some (.lst ((rs ++ [((t, (l, q0)) : Rwh)]).map rwr)) := upd_same
    generalize upd (upd H9 t (.tup [.int l, .int (q0 : Nat)])) r (.lst ((rs ++ [((t, (l, q0)) : Rwh)]).map rwr)) = G at S10 hq10 hw10 hd10 hrs10 hr10
    refine ⟨_, rfl, .inl ⟨rfl, _, SqL.of hw10⟩, _, rfl, _, _, _, _, rfl, S10 _ _ hp, rfl, b, rfl, .inl ⟨_, .inl (S10 _ _ B.at_)⟩, _, rfl, q, _, 0, .int l, rfl, rfl, hq10, rfl, _, _, rfl, rfl, Nat.zero_le _, fun d2 hd2' => ?_⟩
    have g11 := Same.new (o := .lst []) hd2'
    obtain ⟨bq, hb1, hb2⟩ := getBy (0 - l) G d2 S10 hd2'
    refine ⟨_, DGet.k (k := .inl (0 - l)) (g11 _ _ (S10 _ _ B.at_)), ?_⟩
    rw [hb1]
    have ol := occN_len (0 - l) as
    have wl : as.length * (101 + rs.length) ≤ as.length * 162 := Nat.mul_le_mul_left _ (by omega)
    refine ⟨ww, bq, _, _, rfl, rfl, g11 _ _ hw10, hb2, (by rw [WN_len, WN_len]; omega), ?_⟩
    rw [WN_app]
    have er : (rs ++ [((t, (l, q0)) : Rwh)]).map (·.2) = rs.map (·.2) ++ [(l, q0)] := by rw [List.map_append]; rfl
    have rsl : (rs ++ [((t, (l, q0)) : Rwh)]).length = rs.length + 1 := by rw [List.length_append]; rfl
    have kq : ∀ x o, x ≠ ww → G x = some o → upd (upd G d2 (.lst [])) ww (.lst (WN (W' ++ occN (0 - l) as))) x = some o := fun x o n h => by rw [upd_ne n]; exact g11 _ _ h
    refine ⟨(61 - (rs.length + 1)) * (as.length + 1) + (W' ++ occN (0 - l) as).length, ?_, rs ++ [((t, (l, q0)) : Rwh)], W' ++ occN (0 - l) as, _, _, _, rfl, Same.mut (S10.trans g11) hww, ?_, kq _ _ hrw hr10, fun x hx => kq _ _ (ne_of (hrs10 x hx) hw10 (by intro z; cases z)) (hrs10 x hx), upd_same, ?_, ?_, ?_, ?_⟩
    · rw [List.length_append, List.length_append]
      obtain ⟨t1, ht1⟩ : ∃ t1, 61 - rs.length = t1 + 1 := ⟨60 - rs.length, by omega⟩
      have ht2 : 61 - (rs.length + 1) = t1 := by omega
      rw [ht2, ht1, Nat.add_mul, Nat.one_mul]
      show _ < _ + (W'.length + 1)
      omega
    · rw [er, rows_snoc]
      exact kq _ _ hdw hd10
    · rw [er]; exact I2
    · rw [rsl]
    · rw [rsl, List.length_append, ← Nat.add_assoc, Nat.mul_add as.length (101 + rs.length) 1, Nat.mul_one]
      omega
    · rw [rsl]; exact hrl2
end
end Nt
set_option maxRecDepth 100000
set_option maxHeartbeats 2000000
/-! NtT4: chains made. -/
namespace Nt
open PySem PySem.Spec PyProof.Rows L2
/-! ### frames -/
def tupF (H0 H : Hp) : Hp := fun y => match H y with
  | some (.tup xs) => some (.tup xs)
  | _ => H0 y
theorem tupF_tup {H0 H : Hp} {y : Addr} {xs : List V} (h : H y = some (.tup xs)) : tupF H0 H y = some (.tup xs) := by unfold tupF; rw [h]
theorem tupF_not {H0 H : Hp} {y : Addr} (h : ∀ xs, H y ≠ some (.tup xs)) : tupF H0 H y = H0 y := by
  unfold tupF
  split
  · rename_i xs e; exact absurd e (h xs)
  · rfl
theorem tupF_up {H0 H : Hp} (s : Same H0 H) : Same H0 (tupF H0 H) := fun y o e => by
  have := s y o e
  by_cases z : ∃ xs, H y = some (.tup xs)
  · obtain ⟨xs, h⟩ := z
    rw [tupF_tup h, ← h]; exact this
  · rw [tupF_not fun xs h => z ⟨xs, h⟩]; exact e
theorem tupF_dn {H0 H : Hp} (s : Same H0 H) : Same (tupF H0 H) H := fun y o e => by
  by_cases z : ∃ xs, H y = some (.tup xs)
  · obtain ⟨xs, h⟩ := z
    rw [tupF_tup h] at e
    rw [h]; exact e
  · rw [tupF_not fun xs h => z ⟨xs, h⟩] at e
    exact s y o e
theorem TAt.tups {K : PySem.W.Frag} {H0 H : Hp} {p : Addr} {many : Int} {as : List Cl} (U : TAt K H0 H p many as) : TAt K (tupF H0 H) H p many as := by
  obtain ⟨dx, a, b, c, kvs, h1, h2, h3, h4, h5, h6, h7, h8, h9⟩ := U.own
  have no : ∀ y o, H y = some o → (∀ xs, o ≠ .tup xs) → H0 y = none → tupF H0 H y = none := fun y o e n z => by
    rw [tupF_not fun xs h => n xs (Option.some.inj (e.symm.trans h))]; exact z
  refine ⟨tupF_dn U.same, U.cls.mono (tupF_up U.same), U.lo, U.hi, U.cl, U.len, dx, a, b, c, kvs, no _ _ h6 (by intro xs z; cases z) h1, no _ _ h7 (by intro xs z; cases z) h2, no _ _ h9.at_ (by intro xs z; cases z) h3, no _ _ h8 (by intro xs z; cases z) h4, h5, h6, h7, h8, ?_⟩
  exact h9.frame fun q xs e n z => ⟨no _ _ e (by intro xs z; cases z) z, n⟩
theorem TAt.new {K : PySem.W.Frag} {H0 H : Hp} {p : Addr} {many : Int} {as : List Cl} (U : TAt K H0 H p many as) {f : Addr} (hf : H f = none) (o : HO) : TAt K (upd H0 f o) (upd H f o) p many as := by
  obtain ⟨dx, a, b, c, kvs, h1, h2, h3, h4, h5, h6, h7, h8, h9⟩ := U.own
  have f0 : H0 f = none := U.same.free hf
  have s0 := Same.new (o := o) f0
  have s1 := Same.new (o := o) hf
  have no : ∀ y u, H y = some u → H0 y = none → upd H0 f o y = none := fun y u e z => by rw [upd_ne (ne_of_none e hf)]; exact z
  refine ⟨fun y u e => ?_, U.cls.mono s0, U.lo, U.hi, U.cl, U.len, dx, a, b, c, kvs, no _ _ h6 h1, no _ _ h7 h2, no _ _ h9.at_ h3, no _ _ h8 h4, h5, s1 _ _ h6, s1 _ _ h7, s1 _ _ h8, ?_⟩
  · by_cases z : y = f
    · rw [z, upd_same] at e ⊢; exact e
    · rw [upd_ne z] at e ⊢; exact U.same y u e
  · exact (h9.frame fun q xs e n z => ⟨no _ _ e z, n⟩).same s1
theorem TAt.set {K : PySem.W.Frag} {H0 H : Hp} {p : Addr} {many : Int} {as : List Cl} (U : TAt K H0 H p many as) {f : Addr} {xs : List V} (hf : H0 f = some (.lst xs)) (o : HO) : TAt K (upd H0 f o) (upd H f o) p many as := by
  obtain ⟨dx, a, b, c, kvs, h1, h2, h3, h4, h5, h6, h7, h8, h9⟩ := U.own
  have ne : ∀ y, H0 y = none → y ≠ f := fun y z => (ne_of_none hf z).symm
  have no : ∀ y, H0 y = none → upd H0 f o y = none := fun y z => by rw [upd_ne (ne y z)]; exact z
  refine ⟨fun y u e => ?_, fun x hx => ?_, U.lo, U.hi, U.cl, U.len, dx, a, b, c, kvs, no _ h1, no _ h2, no _ h3, no _ h4, h5, by rw [upd_ne (ne _ h1)]; exact h6, by rw [upd_ne (ne _ h2)]; exact h7, by rw [upd_ne (ne _ h4)]; exact h8, ?_⟩
  · by_cases z : y = f
    · rw [z, upd_same] at e ⊢; exact e
    · rw [upd_ne z] at e ⊢; exact U.same y u e
  · have := U.cls x hx
    rw [upd_ne (ne_of this hf (by intro z; cases z))]; exact this
  · refine (h9.frame fun q ys e n z => ⟨no _ z, n⟩).keep (upd_ne (ne _ h3)) fun q ys e n z => upd_ne fun y => ?_
    rw [y, upd_same] at z; cases z
theorem traced_ask {K : PySem.W.Frag} {H : Hp} {Q : VK} {E : XK} {v x dx : Addr} {many : Int} {as : List Cl} (hv : H v = some (.lst (as.map rf)) ∨ H v = some (.tup (as.map rf))) (hc : CLs H as) (lo : 0 ≤ many) (hi : many ≤ 30) (hcl : ∀ x ∈ as, isCl many x.2 = true) (hl : as.length ≤ 30000)
    (hx : H x = none) (hdx : H dx = none) (hn : dx ≠ x) (k : ∀ H', TAt K H H' x many as → Q .non H') :
    sp_Traced_init K [.ref x, .ref v] (upd (upd H dx (.own x)) x (.ins (He.ga K "Traced") dx [])) Q E :=
  ⟨x, v, dx, H, many, as, rfl, (Same.new hdx).trans (Same.new (by rw [upd_ne hn.symm]; exact hx)), hx, upd_same, hv, hc, lo, hi, hcl, Nat.le_trans hl (by decide), k⟩
/-! ### promises -/
def sp_chain_for (K : PySem.W.Frag) : Sp := fun vs H Q _ => ∃ (p cl : Addr) (H0 : Hp) (many : Int) (as : List Cl) (c : List Int), vs = [.ref p, .ref cl] ∧ TAt K H0 H p many as ∧ many ≤ 15 ∧ H cl = some (.tup (c.map V.int)) ∧ isCl many c = true ∧ contr c c = [] ∧ Rup (as.map (·.2)) c ∧
  ∀ H' t f q its ps, Same H H' → H' t = some (.tup [.ref f, .ref q]) → H' f = some (.tup (its.map V.int)) → H' q = some (.tup (ps.map V.int)) → isCl many its = true → (∀ y ∈ its, y ∈ c) → linkOk many (as.map (·.2)) its ps = true → ps.length ≤ 100 → Q (.ref t) H'
theorem len_chain_for (K : PySem.W.Frag) : ∀ vs H Q E, sp_chain_for K vs H Q E → vs.length = 2 := by
  rintro vs H Q E ⟨p, cl, H0, many, as, c, rfl, _⟩; rfl
structure ChOk (many : Int) (cs : Cls') (ls : List Lk) (n : Nat) : Prop where
  links : linksOk many cs (ls.map lkd)
  last : (cs ++ (ls.map lkd).map (·.1)).getLast? = some []
  ne : ls ≠ []
  len : ls.length ≤ n
  short : ∀ x ∈ ls, x.ps.length ≤ 100
def sp_chained_of (K : PySem.W.Frag) : Sp := fun vs H Q _ => ∃ (v pp : Addr) (many : Int) (as ps : List Cl), vs = [.ref v, .ref pp] ∧ H v = some (.tup (as.map rf)) ∧ H pp = some (.tup (ps.map rf)) ∧ CLs H as ∧ CLs H ps ∧ 0 ≤ many ∧ many ≤ 15 ∧ (∀ x ∈ as, isCl many x.2 = true) ∧ (∀ x ∈ ps, isCl many x.2 = true) ∧ as.length ≤ 30000 ∧ ps.length ≤ 66000 ∧ Steps (as.map (·.2)) (ps.map (·.2)) ∧ (∃ qs, ps.map (·.2) = qs ++ [[]]) ∧
  ∀ H' q ls, Same H H' → H' q = some (.lst (ls.map lkr)) → LKs H' ls → ChOk many (as.map (·.2)) ls ps.length → Q (.ref q) H'
theorem len_chained_of (K : PySem.W.Frag) : ∀ vs H Q E, sp_chained_of K vs H Q E → vs.length = 2 := by
  rintro vs H Q E ⟨v, pp, many, as, ps, rfl, _⟩; rfl
def sp_chained (K : PySem.W.Frag) : Sp := fun vs H Q _ => ∃ (v : V) (many : Int) (as ps : List Cl) (a : Addr), vs = [v, .ref a] ∧ BdS H v many as ∧ many ≤ 15 ∧ H a = some (.tup (ps.map rf)) ∧ CLs H ps ∧ ps.length ≤ 66000 ∧ IsPaper many (as.map (·.2)) (ps.map (·.2)) ∧
  ∀ H' q ls, Same H H' → H' q = some (.tup (ls.map lkr)) → LKs H' ls → ChOk many (as.map (·.2)) ls ps.length → Q (.ref q) H'
theorem len_chained (K : PySem.W.Frag) : ∀ vs H Q E, sp_chained K vs H Q E → vs.length = 2 := by
  rintro vs H Q E ⟨v, many, as, ps, a, rfl, _⟩; rfl
theorem triv_not {c : List Int} (h : contr c c = []) : ∀ l ∈ c, -l ∉ c := fun l hl z => by
  have : l ∈ contr c c := List.mem_filter.mpr ⟨hl, decide_eq_true (by rw [Int.zero_sub]; exact z)⟩
  rw [h] at this
  cases this
theorem triv_yes {many : Int} {c : List Int} (hc : isCl many c = true) (h : contr c c ≠ []) : ∃ l ∈ c, -l ∈ c ∧ l ≠ 0 := by
  obtain ⟨l, hl⟩ := List.exists_mem_of_ne_nil _ h
  obtain ⟨h1, h2⟩ := List.mem_filter.mp hl
  have h2 := of_decide_eq_true h2
  exact ⟨l, h1, by rw [← Int.zero_sub]; exact h2, ((isCl_iff.mp hc).1 l h1).1⟩
theorem negs (c : List Int) : (c.map fun l => 0 - l) = c.map fun l => -l := List.map_congr_left fun l _ => Int.zero_sub l
theorem atI_cls {as : List Cl} {q : Nat} {c : List Int} (h : (as.map (·.2))[q]? = some c) : atI (as.map (·.2)) (q : Int) = some c := atI_nat h
section
variable {P : Program} {w : World} {K : PySem.W.Frag} {mg : Str → Option Value} {base : Heap}
theorem sc_chain_for : FnScope ["units", "clause", "place", "rows", "one", "found", "chain", "literal", "at"] ["units", "clause"] (defScope s_chain_for) := ⟨rfl, rfl, rfl, by decide +kernel, rfl, by decide +kernel, by decide +kernel⟩
theorem ok_chain_for (T : Tx K mg) (C_met_by : CalF P w K mg base ("met_by", none) 2 ["one", "other"] (sp_met_by K)) (C_Traced_trace : CalF P w K mg base ("Traced", some "trace") 2 ["self", "given"] (sp_Traced_trace K)) : CalF P w K mg base ("chain_for", none) 3 ["units", "clause"] (sp_chain_for K) := by
  have mg_tuple : mg "tuple" = none := T.free 73
  obtain ⟨fd_met_by, b_met_by, G_met_by, kp_met_by⟩ := C_met_by
  obtain ⟨fd_Traced_trace, b_Traced_trace, G_Traced_trace, kp_Traced_trace⟩ := C_Traced_trace
  have mg_met_by : mg "met_by" = some (.ref (He.ga K "met_by")) := T.glo 32
  have mt_Traced_trace : Meth K (He.ga K "Traced") "trace" (He.ma K (He.ga K "Traced") "trace") := T.meth 119
  have cl_Traced : Cls K (He.ga K "Traced") := T.cls 116
  have no_Traced_clauses : NoAttr K (He.ga K "Traced") "clauses" := T.noat 124
  refine calF T (d := d_chain_for) 55 rfl sc_chain_for rfl rfl (fun _ _ _ _ _ _ us hl => match us, hl with | [_, _], _ => rfl) (len_chain_for K) ?_
  intro cdv A outer s H vs Q E hr h
  have hu := hu_of hr
  obtain ⟨p, cl, H0, many, as, c, rfl, U, m15, hcl, hc, htr, hrup, k⟩ := h
  obtain ⟨dx, a, b, cc, kvs, n1, n2, n3, n4, nac, hp, ha, hcc, B⟩ := U.own
  have lo := U.lo
  have cnd := pw_nodup (isCl_iff.mp hc).2
  have clen := isCl_len lo hc
  refine ⟨_, (pss_cons (ps_asg (pe_meth (pv 0) cl_Traced mt_Traced_trace G_Traced_trace (hr.mono (by decide)) b_Traced_trace .nil pass0 (pa_cons (pe_lc (own := [("one", 4)]) (g := gName 4) (tt := tYes) rfl sc_chain_for.nd (pi_tupK (K := K) rfl (pv 1)) (blkOk_by (by kernel_rfl)) (fun _ _ _ _ _ => (pg_name (i := 4) sc_chain_for.nd rfl (Or.inl rfl))) (fun _ _ _ _ _ => pts_nil) (fun _ _ _ _ _ => (pe_op op_sub pe_int (pv 4)))) pa_nil)) (pg_tup rfl (pgs_cons (pg_name (i := 2) sc_chain_for.nd rfl (Or.inl rfl)) (pgs_cons (pg_name (i := 3) sc_chain_for.nd rfl (Or.inl rfl)) pgs_nil))))
      (pss_cons (ps_par (i := 5) (j := 6) (by rfl) sc_chain_for.nd rfl rfl (by decide) rfl rfl (pa_cons (pe_ix ix_list2 (pe_fld2 cl_Traced no_Traced_clauses (pv 0)) (pv 2) (fun _ _ => rfl)) (pa_cons (pe_lst (pa_cons (pv 2) pa_nil)) pa_nil)) (by rfl))
      (pss_cons (ps_for PassesOwn.never rfl (pi_listK (K := K) rfl (pe_revL (pv 3))) (pg_tup rfl (pgs_cons (pg_name (i := 7) sc_chain_for.nd rfl (Or.inl rfl)) (pgs_cons (pg_name (i := 8) sc_chain_for.nd rfl (Or.inl rfl)) pgs_nil))) (pss_one (ps_if (pt_cmpR op_in2 (pe_op op_sub pe_int (pv 7)) (pv 5) (by rfl)) (pss_cons (ps_set (i := 5) sc_chain_for.nd rfl (Or.inl rfl) (pe_call G_met_by (hr.mono (by decide)) (by rfl) mg_met_by kp_met_by b_met_by .nil pass0 (pa_cons (pv 5) (pa_cons (pe_ix ix_list2 (pe_fld2 cl_Traced no_Traced_clauses (pv 0)) (pv 8) (fun _ _ => rfl)) pa_nil))))
      (pss_one (ps_expr (pe_bm PySem.F.plainAttrs_list PySem.F.slot_list_append PySem.F.type_list_append mt_append (pv 6) (pa_cons (pv 8) pa_nil))))) pss_nil)))
      (pss_one (ps_ret (pe_tup (pa_cons (pv 5) (pa_cons (pe_callTy call_tuple2 (by rfl) mg_tuple bt_tuple (pa_cons (pv 6) pa_nil)) pa_nil)))))))), ?_⟩
  refine ⟨_, rfl, p, _, _, rfl, hp, rfl, _, rfl, cl, rfl, ⟨_, SqT.of hcl⟩, ?_⟩
  refine lcV0 c _ (wkT c V.int) yName (fun l => .int (0 - l)) (by omega) (by intro _; rfl) (fun H h => SqT.of (h _ _ hcl)) ?_ ?_
  · intro l hl H1 s1 Qe q
    exact ⟨_, rfl, _, _, rfl, rfl, q _ (Same.refl _)⟩
  intro D H1 _ s1 h1
  have U1 := U.grow s1
  have gmem : ∀ l, l ∈ (c.map fun l => 0 - l) ↔ -l ∈ c := fun l => by
    rw [List.mem_map]
    exact ⟨fun ⟨x, hx, e⟩ => by rw [show -l = x by omega]; exact hx, fun h => ⟨-l, h, by omega⟩⟩
  refine ⟨p, D, H0, many, as, c.map fun l => 0 - l, rfl, U1, by rw [List.map_map]; exact h1, fun l hl => ?_, fun l hl z => ?_, ?_, by rw [List.length_map]; omega, fun H2 t r rs o s2 ht hr hrs hrl T => ?_⟩
  · have := (isCl_iff.mp hc).1 _ ((gmem l).mp hl)
    unfold InR at this ⊢; omega
  · have h1 := (gmem l).mp hl
    have h2 := (gmem (-l)).mp z
    exact triv_not htr _ h1 h2
  · exact List.Pairwise.map _ (fun a b (h : a ≠ b) e => h (by omega)) cnd
  have s02 := s1.trans s2
  refine ⟨t, _, rfl, SqT.of ht, rfl, _, _, rfl, _, _, rfl, rfl, ?_⟩
  cases o with
  | none =>
    exfalso
    refine T.no ?_
    rw [negs]; exact hrup
  | some q0 =>
  obtain ⟨c0, hc0, hf0⟩ := T.some_ q0 rfl
  have hc0' := hc0
  rw [List.getElem?_map] at hc0'
  obtain ⟨z0, hz0, ez0⟩ := Option.map_eq_some_iff.mp hc0'
  have hat0 := at_cls hz0
  have z0m := List.mem_of_getElem? hz0
  have asT : ∀ {H' : Hp}, Same H H' → ∀ z ∈ as, H' z.1 = some (.tup (z.2.map V.int)) := fun s z hz => s _ _ (U.same _ _ (U.cls z hz))
  refine ⟨_, rfl, _, _, _, _, rfl, s02 _ _ hp, rfl, _, rfl, a, _, _, _, rfl, rfl, s02 _ _ ha, hat0, _, rfl, by show 1 ≤ sizeLine; decide, fun ch hch => ⟨_, _, rfl, ?_⟩⟩
  have g3 := Same.new (o := .lst [ov (some q0)]) hch
  have hch3 : upd H2 ch (.lst [ov (some q0)]) ch = some (.lst (WN [q0])) := upd_same
  have hr3 := g3 _ _ hr
  refine ⟨_, rfl, r, _, rfl, SqL.of hr3, fun rv hrv => ?_⟩
  have g4 := Same.new (o := .lst (rs.map rwr).reverse) hrv
  have s24 := g3.trans g4
  have hch4 := g4 _ _ hch3
  have hrv4 : upd (upd H2 ch (.lst [ov (some q0)])) rv (.lst (rs.map rwr).reverse) rv = some (.lst (rs.reverse.map rwr)) := by rw [← List.map_reverse]; exact upd_same
  have hrc : rv ≠ ch := (ne_of_none hch3 hrv).symm
  have s04 := s02.trans s24
  generalize upd (upd H2 ch (.lst [ov (some q0)])) rv (.lst (rs.map rwr).reverse) = H4 at s24 hch4 hrv4 s04
  refine ⟨rv, rfl, ⟨_, SqL.of hrv4⟩, ?_⟩
  refine forA rs.reverse (fun σ x => (σ.set 7 (some (.int x.2.1))).set 8 (some (.int ((x.2.2 : Nat) : Int)))) (wkLF rs.reverse rwr fun x H => H x.1 = some (.tup [.int x.2.1, .int ((x.2.2 : Nat) : Int)])) (fun σ => yTup (t := fun x : Rwh => x.1) fun _ => rfl)
    (fun don σ H5 => ∃ f fs chn x4 y7 y8 rem, σ = [some (.ref p), some (.ref cl), some (.int (q0 : Nat)), some (.ref r), x4, some (.ref f), some (.ref ch), y7, y8] ∧ Same H2 H5 ∧ H5 rv = some (.lst (rs.reverse.map rwr)) ∧ H5 f = some (.tup (fs.map V.int)) ∧ isCl many fs = true ∧ H5 ch = some (.lst (WN chn)) ∧ chn ≠ [] ∧ chn.length ≤ don.length + 1 ∧ (∀ q ∈ chn, q < as.length) ∧ gotBy (as.map (·.2)) (chn.map fun (q : Nat) => (q : Int)) = some fs ∧ rs = rem ++ don.reverse ∧ ∀ y ∈ fs, -y ∈ (c.map fun l => 0 - l) ++ (rem.map (·.2)).map (·.1))
    ⟨z0.1, c0, [q0], none, none, none, rs, rfl, s24, hrv4, by rw [← ez0]; exact asT s04 z0 z0m, by rw [← ez0]; exact U.cl z0 z0m, hch4, by simp, by simp, fun q hq => by rw [List.mem_singleton.mp hq]; exact (List.getElem?_eq_some_iff.mp hz0).1, atI_cls hc0, by simp, hf0⟩
    (fun l σ H5 ⟨f, fs, chn, x4, y7, y8, rem, _, s5, hv5, _⟩ => ⟨SqL.of hv5, fun x hx => (hrs.mono s5) x (List.mem_reverse.mp hx)⟩) ?_ ?_
  · rintro don x r2 σ H5 H6 e ⟨f, fs, chn, x4, y7, y8, rem, rfl, s5, hv5, hf5, hfs, hch5, hn5, hcl5, hq5, hgot, erem, hneg⟩ s6
    have s26 := s5.trans s6
    have s06 := s02.trans s26
    -- where it stands
    have hrem : rem = r2.reverse ++ [x] := by
      have h1 : rs = r2.reverse ++ [x] ++ don.reverse := by
        have := congrArg List.reverse e
        rw [List.reverse_reverse, List.reverse_append, List.reverse_cons] at this
        exact this
      rw [h1] at erem
      exact (List.append_inj_left' erem (by simp)).symm
    have hR : (rs.map (·.2))[r2.length]? = some x.2 := by
      rw [erem, hrem, List.getElem?_map, List.append_assoc, List.getElem?_append_right (by simp)]
      simp
    have etk : ((rs.map (·.2)).take (r2.length + 1)) = rem.map (·.2) := by
      rw [← List.map_take, erem, List.take_append_of_le_length (by rw [hrem]; simp)]
      rw [hrem, List.take_of_length_le (by simp)]
    have etk0 : ((rs.map (·.2)).take r2.length) = r2.reverse.map (·.2) := by
      rw [← List.map_take, erem, hrem, List.append_assoc, List.take_append_of_le_length (by simp), List.take_of_length_le (by simp)]
    have erem2 : rs = r2.reverse ++ (don ++ [x]).reverse := by rw [erem, hrem]; simp
    obtain ⟨cc2, hcc2, hl2, hy2⟩ := T.row r2.length x.2.1 x.2.2 hR
    have hcc2' := hcc2
    rw [List.getElem?_map] at hcc2'
    obtain ⟨z2, hz2, ez2⟩ := Option.map_eq_some_iff.mp hcc2'
    have z2m := List.mem_of_getElem? hz2
    have z2cl := U.cl z2 z2m
    rw [ez2] at z2cl
    have hneg' : ∀ y ∈ fs, -y ∈ (c.map fun l => 0 - l) ++ ((rs.map (·.2)).take (r2.length + 1)).map (·.1) := by rw [etk]; exact hneg
    have dl : (don ++ [x]).length = don.length + 1 := by rw [List.length_append]; rfl
    refine ⟨_, rfl, _, _, rfl, rfl, _, rfl, 0 - x.2.1, f, fs, rfl, rfl, .inr (s6 _ _ hf5), _, rfl, ite2 (fun hm => ?_) (fun hm => ?_)⟩
    · have hm := of_decide_eq_true hm
      obtain ⟨rr, hrr, hr1, hr2, hr3⟩ := back_step T hR hcc2 (pw_nodup (isCl_iff.mp hfs).2) hneg' hm
      have l1 := isCl_len lo hfs
      have l2 := isCl_len lo z2cl
      refine ⟨_, rfl, _, rfl, _, _, _, _, rfl, s06 _ _ hp, rfl, _, rfl, a, _, _, _, rfl, rfl, s06 _ _ ha, at_cls hz2, f, z2.1, fs, cc2, rfl, s6 _ _ hf5, by rw [← ez2]; exact asT s06 z2 z2m, by omega, fun hn => ?_, fun r4 hr4 H7 q7 s7 hq7 => ?_⟩
      · rw [hrr] at hn; cases hn
      · rw [hrr] at hr4
        cases hr4
        have hch7 := (s6.trans s7) _ _ hch5
        have cnl : chn.length ≤ 62 := by
          have := congrArg List.length e
          rw [List.length_reverse, List.length_append, List.length_cons] at this
          omega
        refine ⟨_, rfl, .inl ⟨rfl, _, SqL.of hch7⟩, _, rfl, ch, _, _, rfl, rfl, hch7, by rw [WN_len]; exact sz_lt (by omega), ?_⟩
        have ewn : WN chn ++ [V.int ((x.2.2 : Nat) : Int)] = WN (chn ++ [x.2.2]) := WN_app chn [x.2.2]
        rw [ewn]
        have kp : ∀ y o, y ≠ ch → H7 y = some o → upd H7 ch (.lst (WN (chn ++ [x.2.2]))) y = some o := fun y o n h => by rw [upd_ne n]; exact h
        refine ⟨q7, rr, chn ++ [x.2.2], _, _, _, r2.reverse, rfl, Same.mut (s26.trans s7) hch, kp _ _ hrc ((s6.trans s7) _ _ hv5), kp _ _ (ne_of hq7 hch7 (by intro z; cases z)) hq7, metBy_cl hfs z2cl hrr, upd_same, by simp, ?_, ?_, ?_, erem2, ?_⟩
        · rw [List.length_append, dl]
          show chn.length + 1 ≤ _
          omega
        · intro q hq
          rcases List.mem_append.mp hq with hq | hq
          · exact hq5 q hq
          · rw [List.mem_singleton.mp hq]; exact (List.getElem?_eq_some_iff.mp hz2).1
        · rw [List.map_append]
          rw [show ([x.2.2].map fun (q : Nat) => (q : Int)) = [((x.2.2 : Nat) : Int)] from rfl]
          rw [gotBy_snoc (by simpa using hn5) hgot (atI_cls hcc2)]
          exact hrr
        · rw [← etk0]; exact hr1
    · have hm : 0 - x.2.1 ∉ fs := fun z => hm (decide_eq_true z)
      refine ⟨f, fs, chn, _, _, _, r2.reverse, rfl, s26, s6 _ _ hv5, s6 _ _ hf5, hfs, s6 _ _ hch5, hn5, by rw [dl]; omega, hq5, hgot, erem2, ?_⟩
      rw [← etk0]
      exact back_skip hR hneg' hm
  · rintro σ H5 ⟨f, fs, chn, x4, y7, y8, rem, rfl, s5, hv5, hf5, hfs, hch5, hn5, hcl5, hq5, hgot, erem, hneg⟩
    have rem0 : rem = [] := by
      rw [List.reverse_reverse] at erem
      have := congrArg List.length erem
      rw [List.length_append] at this
      exact List.length_eq_zero_iff.mp (by omega)
    rw [List.length_reverse] at hcl5
    refine ⟨_, rfl, _, rfl, ch, _, rfl, hch5, fun q hq => ⟨by show 2 ≤ sizeLine; decide, fun t2 ht2 => ?_⟩⟩
    have g6 := Same.new (o := .tup (WN chn)) hq
    have g7 := Same.new (o := .tup [.ref f, .ref q]) ht2
    have g67 := g6.trans g7
    refine k _ t2 f q fs (chn.map fun (q : Nat) => (q : Int)) (s02.trans (s5.trans g67)) upd_same (g67 _ _ hf5) (g7 _ _ upd_same) hfs (fun y hy => ?_) ?_ (by rw [List.length_map]; omega)
    · have := hneg y hy
      rw [rem0, List.map_nil, List.map_nil, List.append_nil] at this
      have := (gmem (-y)).mp this
      rwa [Int.neg_neg] at this
    · unfold linkOk
      simp only [Bool.and_eq_true, decide_eq_true_eq]
      refine ⟨⟨⟨hfs, by simpa using hn5⟩, List.all_eq_true.mpr fun i hi => ?_⟩, hgot⟩
      obtain ⟨q, hq, rfl⟩ := List.mem_map.mp hi
      have := hq5 q hq
      simp only [Bool.and_eq_true, decide_eq_true_eq]
      rw [List.length_map]
      omega
end
end Nt
set_option maxRecDepth 100000
set_option maxHeartbeats 1000000
/-! NtL: the law's draws. -/
namespace Nt
open PySem PySem.Spec PyProof.Rows L2
/-- a pot with n draws left -/
def Pot (H : Hp) (p : Addr) (n : Nat) : Prop := ∃ a b c : Int, H p = some (.lst [.int a, .int b, .int c]) ∧ 0 ≤ a ∧ a < 2 ^ 1000 ∧ 0 ≤ b ∧ b < 2 ^ 62 ∧ 0 ≤ c ∧ c + n ≤ 1000000
theorem Pot.less {H : Hp} {p : Addr} {n m : Nat} (h : Pot H p n) (e : m ≤ n) : Pot H p m := by
  obtain ⟨a, b, c, h1, h2, h3, h4, h5, h6, h7⟩ := h
  exact ⟨a, b, c, h1, h2, h3, h4, h5, h6, by omega⟩
theorem Pot.same {H H' : Hp} {p : Addr} {n : Nat} (h : Pot H p n) (s : Same H H') : Pot H' p n := by
  obtain ⟨a, b, c, h1, h2⟩ := h
  exact ⟨a, b, c, s _ _ h1, h2⟩
theorem Ke.same {p : Addr} {H H' : Hp} (s : Same H H') : Ke p H H' := fun y o _ e => s y o e
theorem pow_big {n : Nat} {i : Int} (h : i.natAbs < 2 ^ n) (hn : 0 < n) : i.natAbs.log2 < n := PySem.Flt.log2_lt_of hn h
theorem bits_le (x : Int) : Builtin.Int.intBits x ≤ x.natAbs.log2 + 1 := by
  unfold Builtin.Int.intBits
  split <;> omega
theorem prime_at {c : Int} (h : 0 ≤ c) : ∃ pr : Int, atI [V.int 2147480971, .int 2147480969, .int 2147480967, .int 2147480957, .int 2147480951] (c % 5) = some (.int pr) ∧ 0 < pr ∧ pr < 2 ^ 32 := by
  have h5 : c % 5 = 0 ∨ c % 5 = 1 ∨ c % 5 = 2 ∨ c % 5 = 3 ∨ c % 5 = 4 := by omega
  rcases h5 with e | e | e | e | e <;> rw [e]
  · exact ⟨2147480971, rfl, by decide, by decide⟩
  · exact ⟨2147480969, rfl, by decide, by decide⟩
  · exact ⟨2147480967, rfl, by decide, by decide⟩
  · exact ⟨2147480957, rfl, by decide, by decide⟩
  · exact ⟨2147480951, rfl, by decide, by decide⟩
def sp_law_take (K : PySem.W.Frag) : Sp := fun vs H Q _ => ∃ (p : Addr) (u : Int) (n : Nat), vs = [.ref p, .int u] ∧ Pot H p (n + 1) ∧ 0 < u ∧ u ≤ 1000000 ∧ ∀ H' d, Ke p H H' → Pot H' p n → 0 ≤ d → d < u → Q (.int d) H'
theorem len_law_take (K : PySem.W.Frag) : ∀ vs H Q E, sp_law_take K vs H Q E → vs.length = 2 := by
  rintro vs H Q E ⟨p, u, n, rfl, _⟩; rfl
section
variable {P : Program} {w : World} {K : PySem.W.Frag} {mg : Str → Option Value} {base : Heap}
theorem sc_law_take : FnScope ["pot", "upto", "digit", "prime", "blend"] ["pot", "upto"] (defScope s_law_take) := ⟨rfl, rfl, rfl, by decide +kernel, rfl, by decide +kernel, by decide +kernel⟩
theorem ok_law_take (T : Tx K mg)  : CalF P w K mg base ("_law_take", none) 1 ["pot", "upto"] (sp_law_take K) := by
  have mg_int : mg "int" = none := T.free 60
  refine calF T (d := d_law_take) 63 rfl sc_law_take rfl rfl (fun _ _ _ _ _ _ us hl => match us, hl with | [_, _], _ => rfl) (len_law_take K) ?_
  intro cdv A outer s H vs Q E hr h
  have hu := hu_of hr
  obtain ⟨p, u, n, rfl, ⟨a, b, c, hp, a0, a1, b0, b1, c0, c1⟩, u0, u1, k⟩ := h
  have a1' : a.natAbs < 2 ^ 1000 := by omega
  refine ⟨_, (pss_cons (ps_if (pt_cmpR op_gt (pe_ix ix_list2 (pv 0) pe_int (fun _ _ => rfl)) pe_int (nomark _)) (pss_cons (ps_set (i := 2) sc_law_take.nd rfl (Or.inl rfl) (pe_op op_mod (pe_callTy call_int1 (by rfl) mg_int bt_int (pa_cons (pe_ix ix_list2 (pv 0) pe_int (fun _ _ => rfl)) pa_nil)) (pv 1)))
      (pss_cons (ps_asg (pe_op op_fdivW (pe_ix ix_list2 (pv 0) pe_int (fun _ _ => rfl)) (pv 1)) (pg_sub (pv 0) pe_int set_list))
      (pss_one (ps_ret (pv 2))))) pss_nil)
      (pss_cons (ps_asg (pe_op op_add (pe_ix ix_list2 (pv 0) pe_int (fun _ _ => rfl)) pe_int) (pg_sub (pv 0) pe_int set_list))
      (pss_cons (ps_set (i := 3) sc_law_take.nd rfl (Or.inl rfl) (pe_ix ix_list2 (pe_lst (pa_cons pe_int (pa_cons pe_int (pa_cons pe_int (pa_cons pe_int (pa_cons pe_int pa_nil)))))) (pe_op op_mod (pe_callTy call_int1 (by rfl) mg_int bt_int (pa_cons (pe_ix ix_list2 (pv 0) pe_int (fun _ _ => rfl)) pa_nil)) pe_int) (fun _ _ => rfl)))
      (pss_cons (ps_set (i := 4) sc_law_take.nd rfl (Or.inl rfl) (pe_op op_mod (pe_callTy call_int1 (by rfl) mg_int bt_int (pa_cons (pe_op op_powW (pe_callTy call_int1 (by rfl) mg_int bt_int (pa_cons (pe_op op_add (pe_op op_add (pe_ix ix_list2 (pv 0) pe_int (fun _ _ => rfl)) (pe_op op_mulW (pe_op op_mulW pe_int (pe_ix ix_list2 (pv 0) pe_int (fun _ _ => rfl))) (pe_ix ix_list2 (pv 0) pe_int (fun _ _ => rfl)))) pe_int) pa_nil)) pe_int) pa_nil)) (pv 3)))
      (pss_cons (ps_set (i := 4) sc_law_take.nd rfl (Or.inl rfl) (pe_op op_mod (pe_callTy call_int1 (by rfl) mg_int bt_int (pa_cons (pe_op op_mulW (pv 4) (pe_op op_add (pe_op op_mod (pe_callTy call_int1 (by rfl) mg_int bt_int (pa_cons (pv 4) pa_nil)) pe_int) (pe_op op_mulW pe_int (pe_ix ix_list2 (pv 0) pe_int (fun _ _ => rfl))))) pa_nil)) pe_int))
      (pss_one (ps_ret (pe_op op_mod (pe_callTy call_int1 (by rfl) mg_int bt_int (pa_cons (pe_op op_fdivW (pv 4) pe_int) pa_nil)) (pv 1))))))))), ?_⟩
  refine ⟨_, rfl, p, _, 0, .int a, rfl, rfl, hp, rfl, _, _, rfl, rfl, _, rfl, ?_⟩
  refine ite2 (fun h => ?_) (fun h => ?_)
  · refine ⟨_, rfl, p, _, 0, .int a, rfl, rfl, hp, rfl, .inl ⟨a, rfl, _, rfl, _, _, rfl, rfl, u0, ?_⟩⟩
    refine ⟨_, rfl, p, _, 0, .int a, rfl, rfl, hp, rfl, _, rfl, _, _, rfl, rfl, wide_div (b := 20) u0 (by show _ < 1048576; omega) (by decide) (by decide), _, rfl, p, _, 0, 0, rfl, rfl, hp, rfl, ?_⟩
    refine ⟨_, rfl, ?_⟩
    have h1 : 0 ≤ a / u := Int.ediv_nonneg a0 (Int.le_of_lt u0)
    have h2 : a / u ≤ a := Int.ediv_le_self _ a0
    exact k _ _ .own ⟨a / u, b, c, upd_same, h1, by omega, b0, b1, c0, by omega⟩ (Int.emod_nonneg _ (by omega)) (Int.emod_lt_of_pos _ u0)
  · refine ⟨_, rfl, p, _, 2, .int c, rfl, rfl, hp, rfl, _, _, rfl, rfl, _, rfl, p, _, 2, 2, rfl, rfl, hp, rfl, ?_⟩
    have hp1 : upd H p (.lst [.int a, .int b, .int (c + 1)]) p = some (.lst [.int a, .int b, .int (c + 1)]) := upd_same
    have ke : Ke p H (upd H p (.lst [.int a, .int b, .int (c + 1)])) := .own
    refine ⟨by show 5 ≤ sizeLine; decide, fun l hl => ?_⟩
    have gl := Same.new (o := .lst [V.int 2147480971, .int 2147480969, .int 2147480967, .int 2147480957, .int 2147480951]) hl
    have hp2 := gl _ _ hp1
    obtain ⟨pr, hpr, pr0, pr1⟩ := prime_at (c := c + 1) (by omega)
    refine ⟨_, rfl, p, _, 2, .int (c + 1), rfl, rfl, hp2, rfl, .inl ⟨c + 1, rfl, _, _, rfl, rfl, (by show (0 : Int) < 5; decide), l, _, _, _, rfl, rfl, upd_same, hpr, ?_⟩⟩
    have m1 : CMulW 46309 (c + 1) := wide_mul (a := 16) (b := 20) (by decide) (by show _ < 1048576; omega) (by decide) (by decide) (by decide)
    have m2 : CMulW (46309 * (c + 1)) (c + 1) := wide_mul (a := 36) (b := 20) (by show _ < 68719476736; omega) (by show _ < 1048576; omega) (by decide) (by decide) (by decide)
    have e3 : 46309 * (c + 1) * (c + 1) ≤ 46309 * 1000000 * 1000000 := Int.mul_le_mul (by omega) (by omega) (by omega) (by omega)
    have e4 : 0 ≤ 46309 * (c + 1) * (c + 1) := Int.mul_nonneg (by omega) (by omega)
    have hpw : CPowW (b + 46309 * (c + 1) * (c + 1) + 2953) 3 := by
      refine ⟨by decide, ?_⟩
      have h1 := bits_le (b + 46309 * (c + 1) * (c + 1) + 2953)
      have h2 : (b + 46309 * (c + 1) * (c + 1) + 2953).natAbs.log2 < 63 := pow_big (n := 63) (by show _ < 9223372036854775808; omega) (by decide)
      have h3 : Builtin.Int.intBits (b + 46309 * (c + 1) * (c + 1) + 2953) ≤ 64 := by omega
      have h4 : ((Builtin.Int.intBits (b + 46309 * (c + 1) * (c + 1) + 2953) : Nat) : Int) ≤ 64 := Int.ofNat_le.mpr h3
      show _ ≤ 134217728
      omega
    refine ⟨_, rfl, p, _, 1, .int b, rfl, rfl, hp2, rfl, _, rfl, p, _, 2, .int (c + 1), rfl, rfl, hp2, rfl, _, _, rfl, rfl, m1, _, rfl, p, _, 2, .int (c + 1), rfl, rfl, hp2, rfl, _, _, rfl, rfl, m2, _, _, rfl, rfl, _, _, rfl, rfl, .inl ⟨_, rfl, _, _, rfl, rfl, hpw, .inl ⟨_, rfl, _, rfl, _, _, rfl, rfl, pr0, ?_⟩⟩⟩
    have hB0 := Int.emod_nonneg ((b + 46309 * (c + 1) * (c + 1) + 2953) ^ (3 : Int).toNat) (b := pr) (by omega)
    have hB1 := Int.emod_lt_of_pos ((b + 46309 * (c + 1) * (c + 1) + 2953) ^ (3 : Int).toNat) pr0
    obtain ⟨B1, hB⟩ : ∃ B1, B1 = (b + 46309 * (c + 1) * (c + 1) + 2953) ^ (3 : Int).toNat % pr := ⟨_, rfl⟩
    rw [← hB] at hB0 hB1
    have m3 : CMulW 353 (c + 1) := wide_mul (a := 10) (b := 20) (by decide) (by show _ < 1048576; omega) (by decide) (by decide) (by decide)
    have m4 : CMulW B1 (B1 % 7297 + 353 * (c + 1)) := wide_mul (a := 32) (b := 30) (by show _ < 4294967296; omega) (by show _ < 1073741824; omega) (by decide) (by decide) (by decide)
    rw [hB] at m4
    refine ⟨_, rfl, _, rfl, .inl ⟨_, rfl, _, _, rfl, rfl, (by show (0 : Int) < 7297; decide), _, rfl, p, _, 2, .int (c + 1), rfl, rfl, hp2, rfl, _, _, rfl, rfl, m3, _, _, rfl, rfl, _, _, rfl, rfl, m4, .inl ⟨_, rfl, _, _, rfl, rfl, (by show (0 : Int) < 2305843009213693907; decide), ?_⟩⟩⟩
    refine ⟨_, rfl, _, _, rfl, rfl, wide_div (b := 20) (by decide) (by decide) (by decide) (by decide), .inl ⟨_, rfl, _, rfl, _, _, rfl, rfl, u0, ?_⟩⟩
    exact k _ _ (ke.trans (Ke.same gl)) ⟨a, b, c + 1, hp2, a0, a1, b0, b1, by omega, by omega⟩ (Int.emod_nonneg _ (by omega)) (Int.emod_lt_of_pos _ u0)
end
end Nt
set_option maxRecDepth 100000
set_option maxHeartbeats 1000000
/-! NtN: given literals, lifted papers, what is due: plain facts shared by the laws. -/
namespace Nt
open PySem PySem.Spec PyProof.Rows L2
abbrev un (gs : List Int) : Cls' := gs.map fun l => [l]
theorem hold_un (gs : List Int) (a : As) : hold (un gs) a = gs.all (lit a) := by
  unfold hold un
  rw [List.all_map]
  congr 1
  funext l
  show (lit a l || false) = lit a l
  rw [Bool.or_false]
theorem hold_with (cs : Cls') (gs : List Int) (a : As) : hold (cs ++ un gs) a = (hold cs a && gs.all (lit a)) := by rw [hold_app, hold_un]
theorem cnt_perm {many : Int} {cs : Cls'} {f g : List Int} (h : f.Perm g) : cnt many (cs ++ un f) = cnt many (cs ++ un g) :=
  sm_congr (fun a => by
    rw [hold_with, hold_with]
    congr 1
    rw [Bool.eq_iff_iff, List.all_eq_true, List.all_eq_true]
    exact ⟨fun k x hx => k x (h.mem_iff.mpr hx), fun k x hx => k x (h.mem_iff.mp hx)⟩) _ _
theorem cnt_max (many : Int) (cs : Cls') : cnt many cs ≤ 2 ^ many.toNat := by
  have h := sm_le (P := hold cs) (Q := fun _ => true) (fun _ _ => rfl) (nums many.toNat) a0
  rw [sm_one (P := fun _ => true) (fun _ => rfl), nums_len] at h
  exact h
theorem cnt_app {many : Int} (cs ds : Cls') : cnt many (cs ++ ds) ≤ cnt many cs := sm_le (fun a h => by
  rw [hold_app, Bool.and_eq_true] at h
  exact h.1) _ _
def sumN : List Nat → Nat
  | [] => 0
  | x :: r => x + sumN r
theorem sumN_app : ∀ xs ys : List Nat, sumN (xs ++ ys) = sumN xs + sumN ys
  | [], ys => (Nat.zero_add _).symm
  | x :: r, ys => by show x + sumN (r ++ ys) = x + sumN r + sumN ys; rw [sumN_app r ys, Nat.add_assoc]
theorem der_un {cs : Cls'} {gs : List Int} {l : Int} : Der (cs ++ un gs) [] l ↔ Der cs gs l := by
  constructor
  · intro d
    induction d with
    | given h => exact nomatch h
    | unit hc m o ih =>
      rcases List.mem_append.mp hc with hc | hc
      · exact .unit hc m ih
      · obtain ⟨g, hg, rfl⟩ := List.mem_map.mp hc
        rw [List.mem_singleton.mp m]
        exact .given hg
  · intro d
    induction d with
    | given h => exact .unit (List.mem_append_right _ (List.mem_map.mpr ⟨_, h, rfl⟩)) List.mem_cons_self fun y hy ne => absurd (List.mem_singleton.mp hy) ne
    | unit hc m o ih => exact .unit (List.mem_append_left _ hc) m ih
theorem clash_un {cs : Cls'} {gs : List Int} : Clashes (cs ++ un gs) [] ↔ Clashes cs gs := by
  constructor
  · rintro (⟨c, hc, h⟩ | ⟨g, hg, _⟩)
    · rcases List.mem_append.mp hc with hc | hc
      · exact .inl ⟨c, hc, fun l hl => der_un.mp (h l hl)⟩
      · obtain ⟨g, hg, rfl⟩ := List.mem_map.mp hc
        exact .inr ⟨g, hg, der_un.mp (h g List.mem_cons_self)⟩
    · exact nomatch hg
  · rintro (⟨c, hc, h⟩ | ⟨g, hg, h⟩)
    · exact .inl ⟨c, List.mem_append_left _ hc, fun l hl => der_un.mpr (h l hl)⟩
    · refine .inl ⟨[g], List.mem_append_right _ (List.mem_map.mpr ⟨g, hg, rfl⟩), fun l hl => ?_⟩
      rw [List.mem_singleton.mp hl]
      exact der_un.mpr h
theorem srt_lt {S : List Int} (h : S.Nodup) : (srt S).Pairwise (· < ·) := by
  have hn : (srt S).Nodup := (srt_perm S).nodup_iff.mpr h
  exact ((srt_pw S).and hn).imp fun h => by omega
theorem run_same {cs ds : Cls'} {gs hs S T : List Int} (h : RunOk cs gs S none) (k : RunOk ds hs T none) (e : ∀ l, Der cs gs l ↔ Der ds hs l) : srt S = srt T :=
  pw_unique (srt_lt h.nd) (srt_lt k.nd) fun l => by
    rw [(srt_perm S).mem_iff, (srt_perm T).mem_iff, h.mem, k.mem]
    exact e l
theorem Steps.mono : ∀ {ps cs ds : Cls'}, Steps cs ps → (∀ c ∈ cs, c ∈ ds) → Steps ds ps
  | [], _, _, _, _ => trivial
  | c :: r, cs, ds, h, k => ⟨h.1.mono k, Steps.mono h.2 fun x hx => (List.mem_append.mp hx).elim (fun z => List.mem_append_left _ (k x z)) (List.mem_append_right _)⟩
theorem Steps.app : ∀ {ps qs cs : Cls'}, Steps cs ps → Steps (cs ++ ps) qs → Steps cs (ps ++ qs)
  | [], qs, cs, _, k => by rw [List.append_nil] at k; exact k
  | c :: r, qs, cs, h, k => ⟨h.1, Steps.app h.2 (by rw [List.append_assoc]; exact k)⟩
theorem Steps.at_ : ∀ {ps cs : Cls'} {i : Nat} {c : List Int}, Steps cs ps → ps[i]? = some c → Rup (cs ++ ps.take i) c
  | [], _, _, _, _, e => nomatch e
  | p :: r, cs, 0, c, h, e => by
    have : p = c := Option.some.inj e
    rw [← this]
    show Rup (cs ++ []) p
    rw [List.append_nil]; exact h.1
  | p :: r, cs, i + 1, c, h, e => by
    have := Steps.at_ (ps := r) (i := i) (c := c) h.2 e
    rw [List.append_assoc] at this
    exact this
/-- the steps without p, k put to each -/
def lft (p k : Int) (ps : Cls') : Cls' := (ps.filter fun c => !decide (p ∈ c)).map fun c => sset (c ++ [k])
theorem lft_app (p k : Int) (xs ys : Cls') : lft p k (xs ++ ys) = lft p k xs ++ lft p k ys := by unfold lft; rw [List.filter_append, List.map_append]
theorem lft_len (p k : Int) (xs : Cls') : (lft p k xs).length ≤ xs.length := by
  unfold lft
  rw [List.length_map]
  exact List.length_filter_le _ _
theorem lft_end (p k : Int) : lft p k [[]] = [[k]] := by
  show [sset ([] ++ [k])] = [[k]]
  rw [← sset_one (ms := [k]) (ns := [] ++ [k]) (List.pairwise_singleton _ _) fun x => Iff.rfl]
theorem lift_one {cs D P : Cls'} {p k : Int} {c : List Int} (e : k = -p) (hP : ∀ x ∈ P, p ∈ x ∨ sset (x ++ [k]) ∈ D) (h : Rup (cs ++ [[p]] ++ P) c) : Rup (cs ++ D) (sset (c ++ [k])) := by
  unfold Rup at h ⊢
  have hG : ∀ l ∈ c, -l ∈ (sset (c ++ [k])).map (fun l => -l) := fun l hl => List.mem_map.mpr ⟨l, mem_sset.mpr (List.mem_append_left _ hl), rfl⟩
  have hp : p ∈ (sset (c ++ [k])).map (fun l => -l) := List.mem_map.mpr ⟨k, mem_sset.mpr (List.mem_append_right _ List.mem_cons_self), by omega⟩
  by_cases C : Clashes (cs ++ D) ((sset (c ++ [k])).map fun l => -l)
  · exact C
  exfalso
  have key : ∀ l, Der (cs ++ [[p]] ++ P) (c.map fun l => -l) l → Der (cs ++ D) ((sset (c ++ [k])).map fun l => -l) l := by
    intro l d
    induction d with
    | given h =>
      obtain ⟨y, hy, rfl⟩ := List.mem_map.mp h
      exact .given (hG y hy)
    | @unit x l hc m o ih =>
      rcases List.mem_append.mp hc with hc | hc
      · rcases List.mem_append.mp hc with hc | hc
        · exact .unit (List.mem_append_left _ hc) m ih
        · rw [List.mem_singleton.mp hc] at m
          rw [List.mem_singleton.mp m]
          exact .given hp
      · rcases hP x hc with q | q
        · by_cases z : p = l
          · rw [← z]; exact .given hp
          · exact absurd (clash_both (.given hp) (ih p q z)) C
        · refine .unit (List.mem_append_right _ q) (mem_sset.mpr (List.mem_append_left _ m)) fun y hy ne => ?_
          rcases List.mem_append.mp (mem_sset.mp hy) with hy | hy
          · exact ih y hy ne
          · have z2 : -y = p := by have := List.mem_singleton.mp hy; omega
            rw [z2]; exact .given hp
  apply C
  rcases h with ⟨x, hc, hx⟩ | ⟨g, hg, hx⟩
  · rcases List.mem_append.mp hc with hc | hc
    · rcases List.mem_append.mp hc with hc | hc
      · exact .inl ⟨x, List.mem_append_left _ hc, fun l hl => key _ (hx l hl)⟩
      · have := key _ (hx p (by rw [List.mem_singleton.mp hc]; exact List.mem_cons_self))
        exact clash_both (.given hp) this
    · rcases hP x hc with q | q
      · exact clash_both (.given hp) (key _ (hx p q))
      · refine .inl ⟨_, List.mem_append_right _ q, fun y hy => ?_⟩
        rcases List.mem_append.mp (mem_sset.mp hy) with hy | hy
        · exact key _ (hx y hy)
        · have z2 : -y = p := by have := List.mem_singleton.mp hy; omega
          rw [z2]; exact .given hp
  · obtain ⟨y, hy, rfl⟩ := List.mem_map.mp hg
    exact .inr ⟨_, hG y hy, key _ hx⟩
theorem lift_steps {cs : Cls'} {p k : Int} (e : k = -p) : ∀ {ps D P : Cls'}, (∀ x ∈ P, p ∈ x ∨ sset (x ++ [k]) ∈ D) → Steps (cs ++ [[p]] ++ P) ps → Steps (cs ++ D) (lft p k ps)
  | [], D, P, _, _ => trivial
  | c :: r, D, P, hP, h => by
    have h2 := h.2
    rw [List.append_assoc] at h2
    by_cases q : p ∈ c
    · have : lft p k (c :: r) = lft p k r := by unfold lft; rw [List.filter_cons_of_neg (by simp [q])]
      rw [this]
      refine lift_steps e (fun x hx => ?_) h2
      rcases List.mem_append.mp hx with hx | hx
      · exact hP x hx
      · rw [List.mem_singleton.mp hx]; exact .inl q
    · have : lft p k (c :: r) = sset (c ++ [k]) :: lft p k r := by unfold lft; rw [List.filter_cons_of_pos (by simp [q]), List.map_cons]
      rw [this]
      refine ⟨lift_one e hP h.1, ?_⟩
      rw [List.append_assoc]
      refine lift_steps e (fun x hx => ?_) h2
      rcases List.mem_append.mp hx with hx | hx
      · exact (hP x hx).imp id (List.mem_append_left _)
      · rw [List.mem_singleton.mp hx]; exact .inr (List.mem_append_right _ List.mem_cons_self)
theorem lift_all {cs ps : Cls'} {p k : Int} (e : k = -p) (h : Steps (cs ++ [[p]]) ps) : Steps cs (lft p k ps) := by
  have := lift_steps (cs := cs) (ps := ps) (D := []) (P := []) e (fun _ h => (nomatch h)) (by rw [List.append_nil]; exact h)
  rwa [List.append_nil] at this
theorem lft_cl {many p k : Int} {ps : Cls'} (hk : InR many k) (h : ∀ c ∈ ps, isCl many c = true) : ∀ c ∈ lft p k ps, isCl many c = true := by
  intro c hc
  obtain ⟨x, hx, rfl⟩ := List.mem_map.mp hc
  refine isCl_iff.mpr ⟨fun l hl => ?_, sset_pw _⟩
  rcases List.mem_append.mp (mem_sset.mp hl) with hl | hl
  · exact (isCl_iff.mp (h x (List.mem_filter.mp hx).1)).1 l hl
  · rw [List.mem_singleton.mp hl]; exact hk
theorem clash_two {cs : Cls'} {p k : Int} (e : k = -p) (h1 : [p] ∈ cs) (h2 : [k] ∈ cs) : Rup cs [] :=
  clash_both (g := p) (.unit h1 List.mem_cons_self fun y hy ne => absurd (List.mem_singleton.mp hy) ne) (by
    rw [← e]
    exact .unit h2 List.mem_cons_self fun y hy ne => absurd (List.mem_singleton.mp hy) ne)
theorem lift_is {many p k : Int} {cs ps : Cls'} (e : k = -p) (hk : InR many k) (P : PaperOk many (cs ++ [[p]]) ps) : Steps cs (lft p k ps) ∧ (∀ c ∈ lft p k ps, isCl many c = true) ∧ (∃ qs, lft p k ps = qs ++ [[k]]) ∧ (lft p k ps).length ≤ 2 ^ many.toNat := by
  refine ⟨lift_all e P.steps, lft_cl hk P.cl, ?_, Nat.le_trans (lft_len _ _ _) P.short⟩
  obtain ⟨qs, eq⟩ := P.last
  refine ⟨lft p k qs, ?_⟩
  rw [eq, lft_app, lft_end]
theorem is_nil (many : Int) : isCl many [] = true := rfl
theorem paper_against {many p k : Int} {cs ps : Cls'} (e : k = -p) (hk : InR many k) (P : PaperOk many (cs ++ [[p]]) ps) : IsPaper many (cs ++ [[p]]) (lft p k ps ++ [[]]) := by
  obtain ⟨h1, h2, ⟨qs, h3⟩, _⟩ := lift_is e hk P
  refine ⟨⟨_, rfl⟩, fun c hc => ?_, ?_⟩
  · rcases List.mem_append.mp hc with hc | hc
    · exact h2 c hc
    · rw [List.mem_singleton.mp hc]; rfl
  · refine Steps.app (h1.mono fun c hc => List.mem_append_left _ hc) ⟨clash_two e (List.mem_append_left _ (List.mem_append_right _ List.mem_cons_self)) (List.mem_append_right _ (by rw [h3]; exact List.mem_append_right _ List.mem_cons_self)), trivial⟩
theorem paper_both {many p k : Int} {cs ps qs : Cls'} (e : k = -p) (hp : InR many p) (hk : InR many k) (P : PaperOk many (cs ++ [[p]]) ps) (Q : PaperOk many (cs ++ [[k]]) qs) : IsPaper many cs (lft p k ps ++ lft k p qs ++ [[]]) := by
  obtain ⟨h1, h2, ⟨xs, h3⟩, _⟩ := lift_is e hk P
  obtain ⟨g1, g2, ⟨ys, g3⟩, _⟩ := lift_is (k := p) (p := k) (by omega) hp Q
  refine ⟨⟨_, rfl⟩, fun c hc => ?_, ?_⟩
  · rcases List.mem_append.mp hc with hc | hc
    · exact (List.mem_append.mp hc).elim (h2 c) (g2 c)
    · rw [List.mem_singleton.mp hc]; rfl
  · refine Steps.app (Steps.app h1 (g1.mono fun c hc => List.mem_append_left _ hc)) ⟨clash_two e (List.mem_append_right _ (List.mem_append_right _ ?_)) (List.mem_append_right _ (List.mem_append_left _ ?_)), trivial⟩
    · rw [g3]; exact List.mem_append_right _ List.mem_cons_self
    · rw [h3]; exact List.mem_append_right _ List.mem_cons_self
def evr (many : Int) : List Int := nums many.toNat ++ (nums many.toNat).map (0 - ·)
theorem mem_evr {many l : Int} : l ∈ evr many ↔ InR many l := by
  unfold evr InR
  rw [List.mem_append, mem_nums, List.mem_map]
  constructor
  · rintro (h | ⟨x, hx, rfl⟩)
    · omega
    · have := mem_nums.mp hx; omega
  · intro h
    by_cases z : 0 < l
    · exact .inl (by omega)
    · exact .inr ⟨-l, mem_nums.mpr (by omega), by omega⟩
theorem evr_nodup (many : Int) : (evr many).Nodup := by
  refine List.nodup_append.mpr ⟨nums_nodup _, (nums_nodup _).map (f := fun x => 0 - x) (fun a b (h : a ≠ b) => by intro z; apply h; simp at z; omega), fun x hx y hy e => ?_⟩
  obtain ⟨z, hz, rfl⟩ := List.mem_map.mp hy
  have h1 := mem_nums.mp hx
  have h2 := mem_nums.mp hz
  omega
theorem evr_len (many : Int) : (evr many).length = 2 * many.toNat := by unfold evr; rw [List.length_append, List.length_map, nums_len]; omega
def dueOf (many : Int) (cs : Cls') : List Int := srt ((evr many).filter fun l => decide (cnt many (cs ++ un [0 - l]) = 0))
theorem with_cl {many : Int} {cs : Cls'} {gs : List Int} (hc : ∀ c ∈ cs, isCl many c = true) (hg : ∀ l ∈ gs, InR many l) : ∀ c ∈ cs ++ un gs, isCl many c = true := fun c h => by
  rcases List.mem_append.mp h with h | h
  · exact hc c h
  · obtain ⟨l, hl, rfl⟩ := List.mem_map.mp h
    exact isCl_one (hg l hl)
theorem InR.sub {many l : Int} (h : InR many l) : InR many (0 - l) := by unfold InR at h ⊢; omega
theorem none_with {cs : Cls'} {l : Int} (h0 : l ≠ 0) : (∀ a, hold (cs ++ un [0 - l]) a = false) ↔ ∀ a, hold cs a = true → lit a l = true := by
  have e : ∀ a, hold (cs ++ un [0 - l]) a = (hold cs a && !lit a l) := fun a => by
    rw [hold_with, ← lit_neg h0, ← Int.zero_sub]
    simp
  constructor
  · intro h a ha
    have := h a
    rw [e a, ha] at this
    cases q : lit a l
    · rw [q] at this; exact absurd this (by decide)
    · rfl
  · intro h a
    rw [e a]
    cases q : hold cs a
    · rfl
    · rw [h a q]; rfl
theorem mem_due {many : Int} {cs : Cls'} (hc : ∀ c ∈ cs, isCl many c = true) {l : Int} : l ∈ dueOf many cs ↔ Sure many cs l := by
  unfold dueOf
  rw [(srt_perm _).mem_iff, List.mem_filter, mem_evr, decide_eq_true_iff]
  unfold Sure
  constructor
  · rintro ⟨h1, h2⟩
    refine ⟨h1, ?_⟩
    have := (cnt_zero (with_cl hc (gs := [0 - l]) fun x hx => by rw [List.mem_singleton.mp hx]; exact h1.sub)).mp h2
    exact (none_with h1.1).mp this
  · rintro ⟨h1, h2⟩
    refine ⟨h1, ?_⟩
    exact (cnt_zero (with_cl hc (gs := [0 - l]) fun x hx => by rw [List.mem_singleton.mp hx]; exact h1.sub)).mpr ((none_with h1.1).mpr h2)
theorem due_pw (many : Int) (cs : Cls') : (dueOf many cs).Pairwise (· < ·) := srt_lt ((evr_nodup many).filter _)
theorem due_sure {many : Int} {cs : Cls'} {L : List Int} (hc : ∀ c ∈ cs, isCl many c = true) (h1 : L.Pairwise (· < ·)) (h2 : ∀ l, l ∈ L ↔ Sure many cs l) : L = dueOf many cs := pw_unique h1 (due_pw _ _) fun l => (h2 l).trans (mem_due hc).symm
theorem due_all {many : Int} {cs : Cls'} (h : cnt many cs = 0) : (dueOf many cs).length = 2 * many.toNat := by
  unfold dueOf
  rw [(srt_perm _).length_eq, List.filter_eq_self.mpr, evr_len]
  intro l _
  have := cnt_app (many := many) cs (un [0 - l])
  exact decide_eq_true (by omega)
theorem cnt_pos {many : Int} {cs : Cls'} (hc : ∀ c ∈ cs, isCl many c = true) : cnt many cs ≠ 0 ↔ ∃ a, hold cs a = true := by
  constructor
  · intro h
    obtain ⟨b, hb, _⟩ := sm_pos h
    exact ⟨b, hb⟩
  · rintro ⟨a, ha⟩ h
    have := (cnt_zero hc).mp h a
    rw [ha] at this
    cases this
theorem Ke.tup {p a : Addr} {H H' : Hp} {n : Nat} {xs : List V} (k : Ke p H H') (P : Pot H p n) (h : H a = some (.tup xs)) : H' a = some (.tup xs) :=
  k _ _ (fun z => by
    obtain ⟨x, y, c, e, _⟩ := P
    rw [← z, h] at e
    cases e) h
theorem Ke.cls {p : Addr} {H H' : Hp} {n : Nat} {as : List Cl} (k : Ke p H H') (P : Pot H p n) (h : CLs H as) : CLs H' as := fun x hx => k.tup P (h x hx)
theorem BdS.ke {p : Addr} {H H' : Hp} {n : Nat} {v : V} {many : Int} {as : List Cl} (B : BdS H v many as) (k : Ke p H H') (P : Pot H p n) : BdS H' v many as := by
  obtain ⟨x, b, e, hx, hb⟩ := B.bd.at_
  exact ⟨⟨⟨x, b, e, k.tup P hx, k.tup P hb⟩, k.cls P B.bd.cls⟩, B.lo, B.hi, B.cl, B.len⟩
theorem BdS.ok' {H : Hp} {v : V} {many : Int} {as : List Cl} (B : BdS H v many as) : ∀ c ∈ as.map (·.2), isCl many c = true := B.ok.cl
/-- what units_told tells -/
def UT (cs : Cls') (gs : List Int) (st : Str) (xs : List Int) : Prop := ∃ S, (RunOk cs gs S none ∧ st = "sure" ∧ xs = srt S) ∨ (∃ c, RunOk cs gs S (some c) ∧ st = "clash" ∧ xs = c)
theorem told_ask {K : PySem.W.Frag} {H : Hp} {Q : VK} {E : XK} {v : V} {many : Int} {as : List Cl} {a : Addr} {gs : List Int} (B : BdS H v many as) (ha : H a = some (.tup (gs.map V.int))) (hg : isCl many gs = true)
    (k : ∀ H' t b st xs, Same H H' → H' t = some (.tup [.str st, .ref b]) → H' b = some (.tup (xs.map V.int)) → UT (as.map (·.2)) gs st xs → Q (.ref t) H') : sp_units_told K [v, .ref a] H Q E :=
  ⟨v, many, as, a, gs, rfl, B, ha, hg, fun H' t b S s h1 h2 R => k H' t b _ _ s h1 h2 ⟨S, .inl ⟨R, rfl, rfl⟩⟩, fun H' t b c S s h1 h2 R => k H' t b _ _ s h1 h2 ⟨S, .inr ⟨c, R, rfl, rfl⟩⟩⟩
theorem sum_nat {α : Type} (f : α → Nat) : ∀ l : List α, (l.map fun x => ((f x : Nat) : Int)).sum = ((sumN (l.map f) : Nat) : Int)
  | [] => rfl
  | x :: l => by
    rw [List.map_cons, List.sum_cons, sum_nat f l]
    show _ = ((f x + sumN (l.map f) : Nat) : Int)
    omega
theorem rg_nums (D : Nat) : rgV 1 (1 + (D : Int) + 1) = (nums (1 + (D : Int)).toNat).map V.int := by
  unfold rgV nums
  rw [show (1 + (D : Int) + 1 - 1).toNat = (1 + (D : Int)).toNat by omega, List.map_map]
  refine List.map_congr_left fun i _ => ?_
  show V.int (1 + (i : Int)) = V.int ((i : Int) + 1)
  rw [Int.add_comm]
/-- both told, and the law's own units -/
theorem told_key {cs : Cls'} {gs xs1 xs2 S3 : List Int} {st1 st2 : Str} {bad : Bool} (U1 : UT cs gs st1 xs1) (U2 : UT (cs ++ un gs) [] st2 xs2) (U3 : ∃ o, bad = o.isSome ∧ RunOk cs gs S3 o) :
    (st1 = "sure" ∧ st2 = "sure" ∧ bad = false ∧ xs1 = srt S3 ∧ xs2 = srt S3) ∨ (st1 = "clash" ∧ st2 = "clash" ∧ bad = true ∧ xs1 ∈ cs ++ un gs ∧ xs2 ∈ cs ++ un gs ∧ Clashes cs gs) := by
  obtain ⟨o, rfl, R3⟩ := U3
  obtain ⟨S1, ⟨R1, rfl, rfl⟩ | ⟨c1, R1, rfl, rfl⟩⟩ := U1
  · left
    have nc := R1.no
    obtain ⟨S2, ⟨R2, rfl, rfl⟩ | ⟨c2, R2, rfl, rfl⟩⟩ := U2
    · cases o with
      | some c => exact absurd R3.clashes nc
      | none => exact ⟨rfl, rfl, rfl, run_same R1 R3 fun _ => Iff.rfl, run_same R2 R3 fun _ => der_un⟩
    · exact absurd (clash_un.mp R2.clashes) nc
  · right
    have cc := R1.clashes
    obtain ⟨S2, ⟨R2, rfl, rfl⟩ | ⟨c2, R2, rfl, rfl⟩⟩ := U2
    · exact absurd (clash_un.mpr cc) R2.no
    · cases o with
      | none => exact absurd cc R3.no
      | some c =>
        refine ⟨rfl, rfl, rfl, (R1.clash _ rfl).1, ?_, cc⟩
        have := (R2.clash _ rfl).1
        rwa [List.map_nil, List.append_nil] at this
theorem fork {G : Prop} {Kt : Hp → Prop} {H0 : Hp} (h1 : (∀ H', Same H0 H' → Kt H') → G) (h2 : ∀ H', Same H0 H' → Kt H') : G := h1 h2
theorem evr_two (D : Nat) : (rgV 1 (1 + (D : Int) + 1)) ++ (((List.range (1 + (D : Int) + 1 - 1).toNat).map fun (i : Nat) => (1 : Int) + (i : Int)).map fun l => V.int (0 - l)) = (evr (1 + (D : Int))).map V.int := by
  have h := rg_nums D
  unfold rgV at h ⊢
  unfold evr
  rw [List.map_append, h]
  congr 1
  rw [List.map_map, List.map_map]
  unfold nums
  rw [show (1 + (D : Int) + 1 - 1).toNat = (1 + (D : Int)).toNat by omega, List.map_map]
  refine List.map_congr_left fun i _ => ?_
  show V.int (0 - (1 + (i : Int))) = V.int (0 - ((i : Int) + 1))
  rw [Int.add_comm]
theorem un_one (cs : Cls') (l : Int) : cs ++ un [l] = cs ++ [[l]] := rfl
theorem sub_sub (l : Int) : 0 - (0 - l) = l := by omega
theorem cl_len {D : Nat} (h7 : 1 + (D : Int) ≤ 7) {c : List Int} (h : isCl (1 + (D : Nat)) c = true) : c.length ≤ 15 := by
  have := isCl_len (by omega) h
  omega
theorem last_cl {ls : List Cl} {qs : List (List Int)} {c : List Int} (e : ls.map (·.2) = qs ++ [c]) : ∃ l2 y, ls = l2 ++ [y] ∧ y.2 = c := by
  rcases List.eq_nil_or_concat ls with h | ⟨L, y, h⟩
  · rw [h] at e
    have := congrArg List.length e
    simp at this
  · rw [List.concat_eq_append] at h
    rw [h, List.map_append] at e
    have h2 := List.append_inj_right' e rfl
    exact ⟨L, y, h, by simpa using h2⟩
/-- all ways of numbers -/
def waysOf : List (List Int) → List Int → List (List Int)
  | f, [] => f
  | f, n :: ns => waysOf (f.map (· ++ [n]) ++ f.map (· ++ [0 - n])) ns
theorem waysOf_app : ∀ (f : List (List Int)) (xs ys : List Int), waysOf f (xs ++ ys) = waysOf (waysOf f xs) ys
  | _, [], _ => rfl
  | f, x :: xs, ys => waysOf_app _ xs ys
theorem cnt_two {many : Int} {cs : Cls'} (f : List Int) {n : Int} (n0 : n ≠ 0) : cnt many (cs ++ un f) = cnt many (cs ++ un (f ++ [n])) + cnt many (cs ++ un (f ++ [0 - n])) :=
  sm_add (fun a => by
    have e : lit a (0 - n) = !lit a n := by rw [Int.zero_sub]; exact lit_neg n0
    have e1 : hold (cs ++ un f) a = (hold cs a && f.all (lit a)) := hold_with _ _ _
    have e2 : hold (cs ++ un (f ++ [n])) a = (hold cs a && (f.all (lit a) && lit a n)) := by
      rw [hold_with, List.all_append]; simp
    have e3 : hold (cs ++ un (f ++ [0 - n])) a = (hold cs a && (f.all (lit a) && !lit a n)) := by
      rw [hold_with, List.all_append, ← e]; simp
    rw [e1, e2, e3]
    cases hold cs a <;> cases f.all (lit a) <;> cases lit a n <;> simp) _ _
theorem ways_one {many : Int} {cs : Cls'} {n : Int} (n0 : n ≠ 0) : ∀ F : List (List Int), sumN ((F.map (· ++ [n])).map fun w => cnt many (cs ++ un w)) + sumN ((F.map (· ++ [0 - n])).map fun w => cnt many (cs ++ un w)) = sumN (F.map fun w => cnt many (cs ++ un w))
  | [] => rfl
  | f :: F => by
    have h1 := ways_one (many := many) (cs := cs) n0 F
    have h2 := cnt_two (many := many) (cs := cs) f n0
    show cnt many (cs ++ un (f ++ [n])) + sumN _ + (cnt many (cs ++ un (f ++ [0 - n])) + sumN _) = cnt many (cs ++ un f) + sumN _
    omega
theorem ways_sum {many : Int} {cs : Cls'} : ∀ (ns : List Int) (F : List (List Int)), (∀ n ∈ ns, n ≠ 0) → sumN ((waysOf F ns).map fun w => cnt many (cs ++ un w)) = sumN (F.map fun w => cnt many (cs ++ un w))
  | [], F, _ => rfl
  | n :: ns, F, h => by
    show sumN ((waysOf _ ns).map _) = _
    rw [ways_sum ns _ (fun x hx => h x (List.mem_cons_of_mem _ hx)), List.map_append, sumN_app]
    exact ways_one (h n List.mem_cons_self) F
theorem ways_mem : ∀ {ns : List Int} {F : List (List Int)} {w : List Int}, w ∈ waysOf F ns → ∃ f ∈ F, ∃ g, w = f ++ g ∧ g.map ab = ns.map ab
  | [], F, w, h => ⟨w, h, [], by simp, rfl⟩
  | n :: ns, F, w, h => by
    obtain ⟨f, hf, g, rfl, e⟩ := ways_mem (ns := ns) h
    rcases List.mem_append.mp hf with hf | hf
    · obtain ⟨f0, h0, rfl⟩ := List.mem_map.mp hf
      exact ⟨f0, h0, n :: g, by simp, by rw [List.map_cons, List.map_cons, e]⟩
    · obtain ⟨f0, h0, rfl⟩ := List.mem_map.mp hf
      exact ⟨f0, h0, (0 - n) :: g, by simp, by rw [List.map_cons, List.map_cons, e, Int.zero_sub, ab_neg]⟩
theorem ways_len : ∀ (ns : List Int) (F : List (List Int)), (waysOf F ns).length = F.length * 2 ^ ns.length
  | [], F => (Nat.mul_one _).symm
  | n :: ns, F => by
    show (waysOf _ ns).length = _
    rw [ways_len ns, List.length_append, List.length_map, List.length_map, List.length_cons, Nat.pow_succ, ← Nat.two_mul, Nat.mul_comm 2 F.length, Nat.mul_assoc, Nat.mul_comm 2]
theorem perm_ints {ys rest : List V} {ns : List Int} (h : (ys ++ rest).Perm (ns.map V.int)) : ∃ ms rs : List Int, ys = ms.map V.int ∧ (ms ++ rs).Perm ns := by
  let g : V → Int := fun v => match v with
    | .int i => i
    | _ => 0
  have hg : ∀ zs : List V, (∀ z ∈ zs, ∃ i, z = .int i) → (zs.map g).map V.int = zs := fun zs hz => by
    rw [List.map_map]
    refine (List.map_congr_left (g := id) fun z m => ?_).trans (List.map_id _)
    obtain ⟨i, rfl⟩ := hz z m
    rfl
  have hall : ∀ z ∈ ys ++ rest, ∃ i, z = .int i := fun z m => by
    obtain ⟨i, _, rfl⟩ := List.mem_map.mp (h.mem_iff.mp m)
    exact ⟨i, rfl⟩
  refine ⟨ys.map g, rest.map g, (hg ys fun z m => hall z (List.mem_append_left _ m)).symm, ?_⟩
  have := h.map g
  rw [List.map_append, List.map_map] at this
  have e : (g ∘ V.int) = id := rfl
  rw [e, List.map_id] at this
  exact this
theorem draw_cl {D : Nat} {ms rs ds : List Int} (h : (ms ++ rs).Perm ((List.range (D + 1)).map fun i => (1 : Int) + (i : Nat))) (e : ds.map ab = ms.map ab) : isCl (1 + (D : Nat)) (srt ds) = true := by
  have hm : ∀ m ∈ ms, 1 ≤ m ∧ m ≤ 1 + (D : Nat) := fun m hm => by
    obtain ⟨i, h1, h2⟩ := List.mem_map.mp (h.mem_iff.mp (List.mem_append_left rs hm))
    have := List.mem_range.mp h1
    omega
  have em : ms.map ab = ms := (List.map_congr_left (g := id) fun m q => (ab_pos (n := m) (by have := hm m q; omega))).trans (List.map_id _)
  rw [em] at e
  have nd : ((List.range (D + 1)).map fun i => (1 : Int) + (i : Nat)).Nodup := (List.nodup_range).map (f := fun i : Nat => (1 : Int) + (i : Nat)) (fun a b q => by
    intro z
    exact q (by omega))
  have nm : ms.Nodup := ((List.nodup_append.mp (h.nodup_iff.mpr nd)).1)
  have dn : ds.Nodup := List.Pairwise.of_map (f := ab) (R := (· ≠ ·)) (S := (· ≠ ·)) (fun a b q z => q (by rw [z])) (by rw [e]; exact nm)
  refine isCl_iff.mpr ⟨fun l hl => ?_, ?_⟩
  · have h1 : ab l ∈ ms := by rw [← e]; exact List.mem_map_of_mem ((srt_perm ds).mem_iff.mp hl)
    have h2 := hm _ h1
    unfold InR
    unfold ab at h2
    split at h2 <;> omega
  · have hn : (srt ds).Nodup := (srt_perm ds).nodup_iff.mpr dn
    exact ((srt_pw ds).and hn).imp fun h => by omega
end Nt
set_option maxRecDepth 100000
set_option maxHeartbeats 2000000
/-! NtT5: chains of papers. -/
namespace Nt
open PySem PySem.Spec PyProof.Rows L2
def lkc (x : Lk) : Cl := (x.c, x.its)
theorem lkc_map (ls : List Lk) : (ls.map lkc).map (·.2) = (ls.map lkd).map (·.1) := by rw [List.map_map, List.map_map]; rfl
section
variable {P : Program} {w : World} {K : PySem.W.Frag} {mg : Str → Option Value} {base : Heap}
theorem sc_chained_of : FnScope ["clauses", "paper", "units", "found", "clause", "its", "chain"] ["clauses", "paper"] (defScope s_chained_of) := ⟨rfl, rfl, rfl, by decide +kernel, rfl, by decide +kernel, by decide +kernel⟩
theorem ok_chained_of (T : Tx K mg) (C_is_trivial : CalF P w K mg base ("is_trivial", none) 2 ["clause"] (sp_is_trivial K)) (C_chain_for : CalF P w K mg base ("chain_for", none) 3 ["units", "clause"] (sp_chain_for K)) (C_Traced_put : CalF P w K mg base ("Traced", some "put") 1 ["self", "clause"] (sp_Traced_put K)) (C_Traced_init : CalF P w K mg base ("Traced", some "__init__") 2 ["self", "clauses"] (sp_Traced_init K)) : CalF P w K mg base ("chained_of", none) 4 ["clauses", "paper"] (sp_chained_of K) := by
  obtain ⟨fd_is_trivial, b_is_trivial, G_is_trivial, kp_is_trivial⟩ := C_is_trivial
  obtain ⟨fd_chain_for, b_chain_for, G_chain_for, kp_chain_for⟩ := C_chain_for
  obtain ⟨fd_Traced_put, b_Traced_put, G_Traced_put, kp_Traced_put⟩ := C_Traced_put
  obtain ⟨fd_Traced_init, b_Traced_init, G_Traced_init, kp_Traced_init⟩ := C_Traced_init
  have mg_is_trivial : mg "is_trivial" = some (.ref (He.ga K "is_trivial")) := T.glo 33
  have mg_chain_for : mg "chain_for" = some (.ref (He.ga K "chain_for")) := T.glo 34
  have mt_Traced_put : Meth K (He.ga K "Traced") "put" (He.ma K (He.ga K "Traced") "put") := T.meth 120
  have mg_Traced : mg "Traced" = some (.ref (He.ga K "Traced")) := T.glo 117
  have M_Traced : Mk K (He.ga K "Traced") (He.ma K (He.ga K "Traced") "__init__") := T.mkr 118
  have cl_Traced : Cls K (He.ga K "Traced") := T.cls 116
  refine calF T (d := d_chained_of) 56 rfl sc_chained_of rfl rfl (fun _ _ _ _ _ _ us hl => match us, hl with | [_, _], _ => rfl) (len_chained_of K) ?_
  intro cdv A outer s H vs Q E hr h
  have hu := hu_of hr
  obtain ⟨v, pp, many, as, ps, rfl, hv, hpp, has, hps, lo, m15, acl, pcl, al, pl, st, hlast, k⟩ := h
  refine ⟨_, (pss_cons (ps_par (i := 2) (j := 3) (by rfl) sc_chained_of.nd rfl rfl (by decide) rfl rfl (pa_cons (pe_make M_Traced G_Traced_init (hr.mono (by decide)) (by rfl) mg_Traced b_Traced_init .nil pass0 (pa_cons (pv 0) pa_nil)) (pa_cons (pe_lst pa_nil) pa_nil)) (by rfl))
      (pss_cons (ps_for PassesOwn.never rfl (pi_tupK (K := K) rfl (pv 1)) (pg_name (i := 4) sc_chained_of.nd rfl (Or.inl rfl)) (pss_one (ps_if (pt_not (pt_val (pe_call G_is_trivial (hr.mono (by decide)) (by rfl) mg_is_trivial kp_is_trivial b_is_trivial .nil pass0 (pa_cons (pv 4) pa_nil)))) (pss_cons (ps_asg (pe_call G_chain_for (hr.mono (by decide)) (by rfl) mg_chain_for kp_chain_for b_chain_for .nil pass0 (pa_cons (pv 2) (pa_cons (pv 4) pa_nil))) (pg_tup rfl (pgs_cons (pg_name (i := 5) sc_chained_of.nd rfl (Or.inl rfl)) (pgs_cons (pg_name (i := 6) sc_chained_of.nd rfl (Or.inl rfl)) pgs_nil))))
      (pss_cons (ps_expr (pe_meth (pv 2) cl_Traced mt_Traced_put G_Traced_put (hr.mono (by decide)) b_Traced_put .nil pass0 (pa_cons (pv 5) pa_nil)))
      (pss_cons (ps_expr (pe_bm PySem.F.plainAttrs_list PySem.F.slot_list_append PySem.F.type_list_append mt_append (pv 3) (pa_cons (pe_tup (pa_cons (pv 5) (pa_cons (pv 6) pa_nil))) pa_nil)))
      (pss_one (ps_if (pt_cmpR (op_eqE hr.units) (pv 5) (pe_tup pa_nil) (nomark _)) (pss_one (ps_ret (pv 3))) pss_nil))))) pss_nil)))
      (pss_one (ps_ret (pv 3))))), ?_⟩
  refine ⟨_, rfl, fun y dy hy hdy hn => traced_ask (.inr hv) has lo (by omega) acl al hy hdy hn fun H1 U1 => ⟨rfl, Nat.zero_le _, fun fo hfo => ⟨_, _, rfl, ?_⟩⟩⟩
  have U2 := (U1.new hfo (.lst []))
  have s02 : Same H (upd H fo (.lst [])) := Same.new (U1.same.free hfo)
  have hfoH : H fo = none := U1.same.free hfo
  refine ⟨_, rfl, pp, rfl, ⟨_, SqT.of ((U1.same.trans (Same.new hfo)) _ _ hpp)⟩, ?_⟩
  refine forA ps (fun σ x => σ.set 4 (some (rf x))) (wkT ps rf) (fun σ => yName) (fun don σ H3 => ∃ (ls : List Lk) (F : Hp) (x4 x5 x6 : Option V), σ = [some (.ref v), some (.ref pp), some (.ref y), some (.ref fo), x4, x5, x6] ∧ Same H F ∧ TAt K F H3 y many (as ++ ls.map lkc) ∧ F fo = some (.lst (ls.map lkr)) ∧ LKs F ls ∧ linksOk many (as.map (·.2)) (ls.map lkd) ∧ (∀ x ∈ ls, x.its ≠ []) ∧ (∀ x ∈ ls, x.ps.length ≤ 100) ∧ ls.length ≤ don.length ∧ ∀ q ∈ don, (∃ l ∈ q.2, -l ∈ q.2 ∧ l ≠ 0) ∨ ∃ f ∈ (ls.map lkd).map (·.1), ∀ z ∈ f, z ∈ q.2)
    ⟨[], _, none, none, none, rfl, s02, by rw [List.map_nil, List.append_nil]; exact U2, upd_same, (fun _ h => nomatch h), trivial, (fun _ h => nomatch h), (fun _ h => nomatch h), Nat.le_refl _, (fun _ h => nomatch h)⟩
    (fun l σ H3 ⟨ls, F, _, _, _, _, sF, U, _⟩ => SqT.of (U.same _ _ (sF _ _ hpp))) ?_ ?_
  · rintro don c r σ H3 H4 e ⟨ls, F, x4, x5, x6, rfl, sF, U, hfoF, hlsF, hlk, hne, hsh, hll, hcov⟩ s4
    have U4 := U.grow s4
    have hc : c ∈ ps := by rw [e]; exact List.mem_append_right _ List.mem_cons_self
    have ccl := pcl c hc
    have hcH := U4.same _ _ (sF _ _ (hps c hc))
    have cl1 := isCl_len lo ccl
    refine ⟨_, rfl, c.1, c.2, rfl, hcH, by omega, fun H5 s5 => ⟨_, rfl, ?_⟩⟩
    have U5 := U4.grow s5
    by_cases ht : contr c.2 c.2 = []
    · rw [ht]
      refine iteT ?_
      have dlen : don.length < ps.length := by rw [e, List.length_append, List.length_cons]; omega
      have hrup : Rup ((as ++ ls.map lkc).map (·.2)) c.2 := by
        rw [List.map_append, lkc_map]
        have h1 := Steps.at_ st (i := don.length) (c := c.2) (by rw [e, List.map_append, List.getElem?_append_right (by rw [List.length_map]; exact Nat.le_refl _), List.length_map, Nat.sub_self]; rfl)
        have h2 : (ps.map (·.2)).take don.length = don.map (·.2) := by
          rw [← List.map_take, e, List.take_append_of_le_length (Nat.le_refl _), List.take_length]
        rw [h2] at h1
        refine sub_rup (fun q hq => ?_) h1
        obtain ⟨z, hz, rfl⟩ := List.mem_map.mp hq
        exact hcov z hz
      refine ⟨_, rfl, _, rfl, y, c.1, F, many, as ++ ls.map lkc, c.2, rfl, U5, m15, s5 _ _ hcH, ccl, ht, hrup, fun H6 t f q its pls s6 ht6 hf6 hq6 hits hsub hlo hpl => ?_⟩
      refine ⟨t, _, rfl, SqT.of ht6, rfl, _, _, rfl, _, _, rfl, rfl, ?_⟩
      have U6 := (U5.grow s6).tups
      have sF6 := tupF_up (U5.grow s6).same
      have hf6' : tupF F H6 f = some (.tup (its.map V.int)) := tupF_tup hf6
      have hq6' : tupF F H6 q = some (.tup (pls.map V.int)) := tupF_tup hq6
      obtain ⟨dx', a', b', c', kvs', m1, m2, m3, m4, m5, m6, m7⟩ := U6.own
      have lsb : (as ++ ls.map lkc).length < 100000 := by rw [List.length_append, List.length_map]; omega
      refine ⟨_, rfl, y, _, _, rfl, m6, rfl, _, rfl, y, tupF F H6, many, as ++ ls.map lkc, (f, its), rfl, U6, hf6', hits, lsb, fun H7 U7 => ?_⟩
      have sF7 := sF.trans sF6
      have hfo7 := sF6 _ _ hfoF
      have hls7 := hlsF.mono sF6
      generalize tupF F H6 = F7 at U6 sF6 hf6' hq6' U7 sF7 hfo7 hls7
      refine ⟨_, rfl, .inl ⟨rfl, _, SqL.of (U7.same _ _ hfo7)⟩, _, rfl, _, rfl, by show 2 ≤ sizeLine; decide, fun t8 ht8 => ?_⟩
      have U8 := U7.new ht8 (.tup [.ref f, .ref q])
      have s78 := Same.new (o := .tup [.ref f, .ref q]) (U7.same.free ht8)
      have hfo8 := s78 _ _ hfo7
      refine ⟨fo, _, _, rfl, rfl, U8.same _ _ hfo8, sz_lt (by rw [List.length_map]; omega), ?_⟩
      have U9 := U8.set hfo8 (.lst (ls.map lkr ++ [.ref t8]))
      have els : ls.map lkr ++ [V.ref t8] = (ls ++ [Lk.mk t8 f q its pls]).map lkr := by rw [List.map_append]; rfl
      have keepF : ∀ z xs, upd F7 t8 (.tup [.ref f, .ref q]) z = some (.tup xs) → upd (upd F7 t8 (.tup [.ref f, .ref q])) fo (.lst (ls.map lkr ++ [.ref t8])) z = some (.tup xs) := fun z xs h => by
        rw [upd_ne (ne_of h hfo8 (by intro z; cases z))]; exact h
      have lks9 : LKs (upd (upd F7 t8 (.tup [.ref f, .ref q])) fo (.lst (ls.map lkr ++ [.ref t8]))) (ls ++ [Lk.mk t8 f q its pls]) := fun x hx => by
        rcases List.mem_append.mp hx with hx | hx
        · obtain ⟨z1, z2, z3⟩ := hls7 x hx
          exact ⟨keepF _ _ (s78 _ _ z1), keepF _ _ (s78 _ _ z2), keepF _ _ (s78 _ _ z3)⟩
        · rw [List.mem_singleton.mp hx]
          exact ⟨keepF _ _ upd_same, keepF _ _ (s78 _ _ hf6'), keepF _ _ (s78 _ _ hq6')⟩
      have hf9 := U9.same _ _ (keepF _ _ (s78 _ _ hf6'))
      have sF9 : Same H (upd (upd F7 t8 (.tup [.ref f, .ref q])) fo (.lst (ls.map lkr ++ [.ref t8]))) := Same.mut (sF7.trans s78) hfoH
      have hfo9 : upd (upd F7 t8 (.tup [.ref f, .ref q])) fo (.lst (ls.map lkr ++ [.ref t8])) fo = some (.lst ((ls ++ [Lk.mk t8 f q its pls]).map lkr)) := by rw [upd_same, els]
      have elc : as ++ ls.map lkc ++ [(f, its)] = as ++ (ls ++ [Lk.mk t8 f q its pls]).map lkc := by rw [List.map_append, List.append_assoc]; rfl
      rw [elc] at U9
      have eld : (ls ++ [Lk.mk t8 f q its pls]).map lkd = ls.map lkd ++ [(its, pls)] := by rw [List.map_append]; rfl
      have hlk9 : linksOk many (as.map (·.2)) ((ls ++ [Lk.mk t8 f q its pls]).map lkd) := by
        rw [eld]
        refine linksOk_snoc hlk ?_
        rw [List.map_append, lkc_map] at hlo
        exact hlo
      generalize upd (upd F7 t8 (.tup [.ref f, .ref q])) fo (.lst (ls.map lkr ++ [.ref t8])) = F9 at U9 lks9 hf9 sF9 hfo9
      generalize upd (upd H7 t8 (.tup [.ref f, .ref q])) fo (.lst (ls.map lkr ++ [.ref t8])) = H9 at U9 hf9
      refine ⟨_, rfl, Nat.zero_le _, fun e10 he10 => ?_⟩
      have g10 := Same.new (o := .tup []) he10
      refine ⟨f, e10, _, rfl, rfl, .inr ⟨g10 _ _ hf9, upd_same⟩, dd_ints _, _, rfl, ?_⟩
      rw [List.isEmpty_map]
      have U10 := U9.grow g10
      have ll2 : (ls ++ [Lk.mk t8 f q its pls]).length ≤ don.length + 1 := by rw [List.length_append]; exact Nat.succ_le_succ hll
      have hsh2 : ∀ x ∈ ls ++ [Lk.mk t8 f q its pls], x.ps.length ≤ 100 := fun x hx => by
        rcases List.mem_append.mp hx with hx | hx
        · exact hsh x hx
        · rw [List.mem_singleton.mp hx]; exact hpl
      cases its with
      | nil =>
        refine iteT ?_
        refine ⟨_, rfl, k _ fo _ (sF9.trans U10.same) (U10.same _ _ hfo9) (lks9.mono U10.same) ⟨hlk9, ?_, by simp, by omega, hsh2⟩⟩
        rw [eld, List.map_append]
        simp
      | cons i0 ir =>
        refine iteF ?_
        refine ⟨_, F9, _, _, _, rfl, sF9, U10, hfo9, lks9, hlk9, fun x hx => ?_, hsh2, by rw [List.length_append (as := don)]; exact ll2, fun z hz => ?_⟩
        · rcases List.mem_append.mp hx with hx | hx
          · exact hne x hx
          · rw [List.mem_singleton.mp hx]; exact fun z => nomatch z
        · rw [eld, List.map_append]
          rcases List.mem_append.mp hz with hz | hz
          · exact (hcov z hz).imp id fun ⟨g, g1, g2⟩ => ⟨g, List.mem_append_left _ g1, g2⟩
          · rw [List.mem_singleton.mp hz]
            exact .inr ⟨i0 :: ir, List.mem_append_right _ List.mem_cons_self, hsub⟩
    · have hti : (contr c.2 c.2).isEmpty = false := by
        cases q : contr c.2 c.2 with
        | nil => exact absurd q ht
        | cons _ _ => rfl
      rw [hti]
      refine iteF ?_
      refine ⟨ls, F, _, _, _, rfl, sF, U5, hfoF, hlsF, hlk, hne, hsh, by rw [List.length_append]; omega, fun z hz => ?_⟩
      rcases List.mem_append.mp hz with hz | hz
      · exact hcov z hz
      · rw [List.mem_singleton.mp hz]
        exact .inl (triv_yes ccl ht)
  · rintro σ H3 ⟨ls, F, x4, x5, x6, rfl, sF, U, hfoF, hlsF, hlk, hne, hsh, hll, hcov⟩
    exfalso
    obtain ⟨qs, eq⟩ := hlast
    obtain ⟨l2, z, e2, ez⟩ := last_cl eq
    rcases hcov z (by rw [e2]; exact List.mem_append_right _ List.mem_cons_self) with ⟨l, hl, _⟩ | ⟨f, hf, hs⟩
    · rw [ez] at hl; cases hl
    · obtain ⟨u, hu, rfl⟩ := List.mem_map.mp hf
      obtain ⟨x, hx, rfl⟩ := List.mem_map.mp hu
      have hs : ∀ y ∈ x.its, y ∈ z.2 := hs
      cases hx2 : x.its with
      | nil => exact hne x hx hx2
      | cons a b =>
        have := hs a (by rw [hx2]; exact List.mem_cons_self)
        rw [ez] at this
        cases this
theorem sc_chained : FnScope ["bundle", "paper"] ["bundle", "paper"] (defScope s_chained) := ⟨rfl, rfl, rfl, by decide +kernel, rfl, by decide +kernel, by decide +kernel⟩
theorem ok_chained (T : Tx K mg) (C_check_bundle : CalF P w K mg base ("check_bundle", none) 4 ["bundle"] (sp_check_bundle K)) (C_is_paper_of : CalF P w K mg base ("is_paper_of", none) 5 ["bundle", "value"] (sp_is_paper_of K)) (C_chained_of : CalF P w K mg base ("chained_of", none) 4 ["clauses", "paper"] (sp_chained_of K)) : CalF P w K mg base ("chained", none) 6 ["bundle", "paper"] (sp_chained K) := by
  have mg_tuple : mg "tuple" = none := T.free 73
  obtain ⟨fd_check_bundle, b_check_bundle, G_check_bundle, kp_check_bundle⟩ := C_check_bundle
  obtain ⟨fd_is_paper_of, b_is_paper_of, G_is_paper_of, kp_is_paper_of⟩ := C_is_paper_of
  obtain ⟨fd_chained_of, b_chained_of, G_chained_of, kp_chained_of⟩ := C_chained_of
  have mg_check_bundle : mg "check_bundle" = some (.ref (He.ga K "check_bundle")) := T.glo 5
  have mg_is_paper_of : mg "is_paper_of" = some (.ref (He.ga K "is_paper_of")) := T.glo 15
  have mg_chained_of : mg "chained_of" = some (.ref (He.ga K "chained_of")) := T.glo 35
  refine calF T (d := d_chained) 57 rfl sc_chained rfl rfl (fun _ _ _ _ _ _ us hl => match us, hl with | [_, _], _ => rfl) (len_chained K) ?_
  intro cdv A outer s H vs Q E hr h
  have hu := hu_of hr
  obtain ⟨v, many, as, ps, a, rfl, B, m15, ha, hps, hl, hP, k⟩ := h
  have pcl : ∀ x ∈ ps, isCl many x.2 = true := fun x hx => hP.2.1 _ (List.mem_map_of_mem hx)
  refine ⟨_, (pss_cons (ps_expr (pe_call G_check_bundle (hr.mono (by decide)) (by rfl) mg_check_bundle kp_check_bundle b_check_bundle .nil pass0 (pa_cons (pv 0) pa_nil)))
      (pss_cons (ps_if (pt_not (pt_val (pe_call G_is_paper_of (hr.mono (by decide)) (by rfl) mg_is_paper_of kp_is_paper_of b_is_paper_of .nil pass0 (pa_cons (pv 0) (pa_cons (pv 1) pa_nil))))) (pss_one (ps_never (st := _))) pss_nil)
      (pss_one (ps_ret (pe_callTy call_tuple2 (by rfl) mg_tuple bt_tuple (pa_cons (pe_call G_chained_of (hr.mono (by decide)) (by rfl) mg_chained_of kp_chained_of b_chained_of .nil pass0 (pa_cons (pe_ix ix_tup2 (pv 0) pe_int (fun _ _ => rfl)) (pa_cons (pv 1) pa_nil))) pa_nil)))))), ?_⟩
  refine ⟨_, rfl, v, many, as, rfl, B.bd, B.ok, fun H1 s1 => ?_⟩
  refine ⟨_, rfl, _, rfl, v, many, as, ps, a, rfl, B.mono s1, s1 _ _ ha, hps.mono s1, hl, fun x hx => by have := isCl_len B.lo (pcl x hx); have := B.hi; omega, fun H2 r s2 hr => ?_⟩
  rw [hr.mpr hP]
  refine ⟨_, rfl, iteF ?_⟩
  have B2 := B.mono (s1.trans s2)
  obtain ⟨va, vb, rfl, hva, hvb⟩ := B2.bd.at_
  refine ⟨_, rfl, va, _, _, _, rfl, rfl, hva, rfl, _, rfl, vb, a, many, as, ps, rfl, hvb, (s1.trans s2) _ _ ha, B2.bd.cls, hps.mono (s1.trans s2), B.lo, m15, B.cl, pcl, B.len, hl, hP.2.2, hP.1, fun H3 q ls s3 hq hls C => ?_⟩
  refine ⟨q, _, rfl, hq, fun q2 hq2 => ?_⟩
  have g4 := Same.new (o := .tup (ls.map lkr)) hq2
  exact k _ q2 ls (s1.trans (s2.trans (s3.trans g4))) upd_same (hls.mono g4) C
end
end Nt
set_option maxRecDepth 100000
set_option maxHeartbeats 1000000
/-! NtL2: the law's draws: one of, some of, cells, pots. -/
namespace Nt
open PySem PySem.Spec PyProof.Rows L2
theorem erase_perm {α : Type} {xs : List α} {j : Nat} {y : α} (h : xs[j]? = some y) : (y :: xs.eraseIdx j).Perm xs := by
  obtain ⟨h1, h2⟩ := List.getElem?_eq_some_iff.mp h
  rw [List.eraseIdx_eq_take_drop_succ]
  have e : xs = xs.take j ++ y :: xs.drop (j + 1) := by rw [← h2, List.getElem_cons_drop, List.take_append_drop]
  have p : (y :: (xs.take j ++ xs.drop (j + 1))).Perm (xs.take j ++ y :: xs.drop (j + 1)) := List.perm_middle.symm
  rw [← e] at p
  exact p
def sp_law_of (K : PySem.W.Frag) : Sp := fun vs H Q _ => ∃ (p l : Addr) (xs : List V) (n : Nat), vs = [.ref p, .ref l] ∧ Pot H p (n + 1) ∧ H l = some (.lst xs) ∧ l ≠ p ∧ xs ≠ [] ∧ xs.length ≤ 1000000 ∧ ∀ H' x, Ke p H H' → Pot H' p n → x ∈ xs → Q x H'
theorem len_law_of (K : PySem.W.Frag) : ∀ vs H Q E, sp_law_of K vs H Q E → vs.length = 2 := by
  rintro vs H Q E ⟨p, l, xs, n, rfl, _⟩; rfl
def sp_law_some (K : PySem.W.Frag) : Sp := fun vs H Q _ => ∃ (p l : Addr) (xs : List V) (k n : Nat), vs = [.ref p, .ref l, .int (k : Nat)] ∧ Pot H p (n + k) ∧ H l = some (.lst xs) ∧ k ≤ xs.length ∧ xs.length ≤ 100000 ∧
  ∀ H' q ys, Ke p H H' → Pot H' p n → H q = none → H' q = some (.lst ys) → (∃ rest, (ys ++ rest).Perm xs) → ys.length = k → Q (.ref q) H'
theorem len_law_some (K : PySem.W.Frag) : ∀ vs H Q E, sp_law_some K vs H Q E → vs.length = 3 := by
  rintro vs H Q E ⟨p, l, xs, k, n, rfl, _⟩; rfl
section
variable {P : Program} {w : World} {K : PySem.W.Frag} {mg : Str → Option Value} {base : Heap}
theorem sc_law_of : FnScope ["pot", "some"] ["pot", "some"] (defScope s_law_of) := ⟨rfl, rfl, rfl, by decide +kernel, rfl, by decide +kernel, by decide +kernel⟩
theorem ok_law_of (T : Tx K mg) (C_law_take : CalF P w K mg base ("_law_take", none) 1 ["pot", "upto"] (sp_law_take K)) : CalF P w K mg base ("_law_of", none) 2 ["pot", "some"] (sp_law_of K) := by
  have mg_len : mg "len" = none := T.free 62
  obtain ⟨fd_law_take, b_law_take, G_law_take, kp_law_take⟩ := C_law_take
  have mg_law_take : mg "_law_take" = some (.ref (He.ga K "_law_take")) := T.glo 42
  refine calF T (d := d_law_of) 64 rfl sc_law_of rfl rfl (fun _ _ _ _ _ _ us hl => match us, hl with | [_, _], _ => rfl) (len_law_of K) ?_
  intro cdv A outer s H vs Q E hr h
  have hu := hu_of hr
  obtain ⟨p, l, xs, n, rfl, hP, hl, hlp, hne, hlen, k⟩ := h
  have hpos : 0 < xs.length := List.length_pos_iff.mpr hne
  refine ⟨_, (pss_one (ps_ret (pe_ix ix_list2 (pv 1) (pe_call G_law_take (hr.mono (by decide)) (by rfl) mg_law_take kp_law_take b_law_take .nil pass0 (pa_cons (pv 0) (pa_cons (pe_callB call_len2 (by rfl) mg_len bt_len (pa_cons (pv 1) pa_nil)) pa_nil))) (fun _ _ => rfl)))), ?_⟩
  refine ⟨_, rfl, _, rfl, _, rfl, l, xs, rfl, .inl hl, p, xs.length, n, rfl, hP, by omega, by omega, fun H1 d K1 P1 d0 d1 => ?_⟩
  obtain ⟨j, rfl⟩ : ∃ j : Nat, d = j := ⟨d.toNat, (Int.toNat_of_nonneg d0).symm⟩
  have hj : j < xs.length := by omega
  have hx : xs[j]? = some xs[j] := List.getElem?_eq_getElem hj
  exact ⟨l, xs, j, xs[j], rfl, rfl, K1 _ _ hlp hl, atI_nat hx, k H1 _ K1 P1 (List.getElem_mem hj)⟩
theorem sc_law_some : FnScope ["pot", "some", "many", "left", "found", "lap"] ["pot", "some", "many"] (defScope s_law_some) := ⟨rfl, rfl, rfl, by decide +kernel, rfl, by decide +kernel, by decide +kernel⟩
theorem ok_law_some (T : Tx K mg) (C_law_take : CalF P w K mg base ("_law_take", none) 1 ["pot", "upto"] (sp_law_take K)) : CalF P w K mg base ("_law_some", none) 2 ["pot", "some", "many"] (sp_law_some K) := by
  have mg_range : mg "range" = none := T.free 66
  have mg_list : mg "list" = none := T.free 63
  have mg_len : mg "len" = none := T.free 62
  obtain ⟨fd_law_take, b_law_take, G_law_take, kp_law_take⟩ := C_law_take
  have mg_law_take : mg "_law_take" = some (.ref (He.ga K "_law_take")) := T.glo 42
  refine calF T (d := d_law_some) 65 rfl sc_law_some rfl rfl (fun _ _ _ _ _ _ us hl => match us, hl with | [_, _, _], _ => rfl) (len_law_some K) ?_
  intro cdv A outer s H vs Q E hr h
  have hu := hu_of hr
  obtain ⟨p, l, xs, kk, n, rfl, hP, hl, hk, hlen, k⟩ := h
  refine ⟨_, (pss_cons (ps_par (i := 3) (j := 4) (by rfl) sc_law_some.nd rfl rfl (by decide) rfl rfl (pa_cons (pe_callTy call_list2 (by rfl) mg_list bt_list (pa_cons (pv 1) pa_nil)) (pa_cons (pe_lst pa_nil) pa_nil)) (by rfl))
      (pss_cons (ps_for PassesOwn.never rfl (pi_range1 (by rfl) mg_range (pa_cons (pv 2) pa_nil)) (pg_name (i := 5) sc_law_some.nd rfl (Or.inl rfl)) (pss_one (ps_expr (pe_bm PySem.F.plainAttrs_list PySem.F.slot_list_append PySem.F.type_list_append mt_append (pv 4) (pa_cons (pe_bm PySem.F.plainAttrs_list PySem.F.slot_list_pop PySem.F.type_list_pop mt_popAt (pv 3) (pa_cons (pe_call G_law_take (hr.mono (by decide)) (by rfl) mg_law_take kp_law_take b_law_take .nil pass0 (pa_cons (pv 0) (pa_cons (pe_callB call_len2 (by rfl) mg_len bt_len (pa_cons (pv 3) pa_nil)) pa_nil))) pa_nil)) pa_nil)))))
      (pss_one (ps_ret (pv 4))))), ?_⟩
  refine ⟨_, rfl, l, xs, rfl, .inl hl, fun L0 hL0 => ⟨Nat.zero_le _, fun F0 hF0 => ⟨_, _, rfl, ?_⟩⟩⟩
  have g1 := Same.new (o := .lst xs) hL0
  have g2 := Same.new (o := .lst []) hF0
  have hL1 := g2 _ _ (upd_same (H := H) (a := L0) (o := .lst xs))
  have hLF : L0 ≠ F0 := ne_of_none (upd_same (H := H) (a := L0) (o := .lst xs)) hF0
  have hF0' : H F0 = none := g1.free hF0
  obtain ⟨a, b, c, hp, hrest⟩ := id hP
  have hLp : L0 ≠ p := (ne_of_none hp hL0).symm
  have hFp : F0 ≠ p := (ne_of_none hp hF0').symm
  refine ⟨_, rfl, (kk : Int), rfl, by omega, by omega, ?_⟩
  have wk := wkR (lo := 0) (n := kk)
  refine forA ((List.range kk).map fun (i : Nat) => (0 : Int) + (i : Int)) (fun σ l => σ.set 5 (some (.int l))) wk (fun σ => yName) (fun don σ H2 => ∃ lf ys x, σ = [some (.ref p), some (.ref l), some (.int (kk : Nat)), some (.ref L0), some (.ref F0), x] ∧ Ke p H H2 ∧ Pot H2 p (n + (kk - don.length)) ∧ H2 L0 = some (.lst lf) ∧ H2 F0 = some (.lst ys) ∧ (ys ++ lf).Perm xs ∧ ys.length = don.length)
    ⟨xs, [], none, rfl, Ke.same (g1.trans g2), by simpa using hP.same (g1.trans g2), hL1, upd_same, List.Perm.refl _, rfl⟩ (fun _ _ _ _ => trivial) ?_ ?_
  · rintro don x r σ H2 H3 e ⟨lf, ys, y, rfl, K2, P2, hL2, hF2, hp2, hyl⟩ s3
    have hdl : don.length < kk := by
      have := congrArg List.length e
      rw [List.length_map, List.length_range, List.length_append, List.length_cons] at this
      omega
    have hlfl : 0 < lf.length := by
      have := hp2.length_eq
      rw [List.length_append] at this
      omega
    have hlfu : lf.length ≤ 100000 := by
      have := hp2.length_eq
      rw [List.length_append] at this
      omega
    have P3 : Pot H3 p ((n + (kk - (don.length + 1))) + 1) := (P2.same s3).less (by omega)
    refine ⟨_, rfl, .inl ⟨rfl, _, SqL.of (s3 _ _ hF2)⟩, _, rfl, .inl ⟨rfl, _, SqL.of (s3 _ _ hL2)⟩, _, rfl, _, rfl, L0, lf, rfl, .inl (s3 _ _ hL2), p, lf.length, _, rfl, P3, by omega, by omega, fun H4 d K4 P4 d0 d1 => ?_⟩
    obtain ⟨j, rfl⟩ : ∃ j : Nat, d = j := ⟨d.toNat, (Int.toNat_of_nonneg d0).symm⟩
    have hj : j < lf.length := by omega
    have hx : lf[j]? = some lf[j] := List.getElem?_eq_getElem hj
    have hL4 := K4 _ _ hLp (s3 _ _ hL2)
    have hF4 := K4 _ _ hFp (s3 _ _ hF2)
    refine ⟨L0, lf, j, j, lf[j], rfl, rfl, hL4, by omega, by omega, ?_, hx, ?_⟩
    · have h0 : ¬ ((j : Int) < 0) := by omega
      simp [seqIndex?, h0]
      omega
    · have hF5 : upd H4 L0 (.lst (lf.eraseIdx j)) F0 = some (.lst ys) := by rw [upd_ne hLF.symm]; exact hF4
      refine ⟨F0, ys, _, rfl, rfl, hF5, sz_lt (by omega), ?_⟩
      have ep := erase_perm hx
      refine ⟨lf.eraseIdx j, ys ++ [lf[j]], _, rfl, fun z o ez eo => ?_, ?_, ?_, upd_same, ?_, by rw [List.length_append, List.length_append, hyl]; rfl⟩
      · rw [upd_ne (ne_of_none eo hF0'), upd_ne (ne_of_none eo hL0)]
        exact K4 _ _ ez (s3 _ _ (K2 _ _ ez eo))
      · obtain ⟨a2, b2, c2, q1, q2⟩ := P4
        rw [List.length_append]
        exact ⟨a2, b2, c2, by rw [upd_ne hFp.symm, upd_ne hLp.symm]; exact q1, q2⟩
      · rw [upd_ne hLF]; exact upd_same
      · rw [List.append_assoc]
        exact (ep.append_left ys).trans hp2
  · rintro σ H2 ⟨lf, ys, y, rfl, K2, P2, hL2, hF2, hp2, hyl⟩
    rw [List.length_map, List.length_range] at P2 hyl
    exact ⟨_, rfl, k H2 F0 ys K2 (P2.less (by omega)) hF0' hF2 ⟨lf, hp2⟩ hyl⟩
end
end Nt
set_option maxRecDepth 100000
set_option maxHeartbeats 1000000
/-! NtL3: the law's cells and pots. -/
namespace Nt
open PySem PySem.Spec PyProof.Rows L2
def sp_law_cells (K : PySem.W.Frag) : Sp := fun vs H Q _ => ∃ (a : Addr) (ns : List Int), vs = [.ref a, .int 3] ∧ SqL K H a (ns.map V.int) ∧ ns.length ≤ 63 ∧ ∀ H' q (m : Nat), Same H H' → H' q = some (.lst ((List.range m).map fun i => V.int (0 + (i : Nat)))) → m ≤ 3 → Q (.ref q) H'
theorem len_law_cells (K : PySem.W.Frag) : ∀ vs H Q E, sp_law_cells K vs H Q E → vs.length = 2 := by
  rintro vs H Q E ⟨a, ns, rfl, _⟩; rfl
def sp_law_pot (K : PySem.W.Frag) : Sp := fun vs H Q _ => ∃ (a : Addr) (ns : List Int) (pl : Nat), vs = [.ref a, .int (0 + (pl : Nat))] ∧ SqL K H a (ns.map V.int) ∧ ns.length ≤ 63 ∧ pl < 3 ∧ ∀ H' p, Same H H' → H p = none → Pot H' p 1000000 → Q (.ref p) H'
theorem len_law_pot (K : PySem.W.Frag) : ∀ vs H Q E, sp_law_pot K vs H Q E → vs.length = 2 := by
  rintro vs H Q E ⟨a, ns, pl, rfl, _⟩; rfl
section
variable {P : Program} {w : World} {K : PySem.W.Frag} {mg : Str → Option Value} {base : Heap}
theorem sc_law_cells : FnScope ["script", "most"] ["script", "most"] (defScope s_law_cells) := ⟨rfl, rfl, rfl, by decide +kernel, rfl, by decide +kernel, by decide +kernel⟩
theorem ok_law_cells (T : Tx K mg)  : CalF P w K mg base ("_law_cells", none) 1 ["script", "most"] (sp_law_cells K) := by
  have mg_list : mg "list" = none := T.free 63
  have mg_range : mg "range" = none := T.free 66
  have mg_max : mg "max" = none := T.free 64
  have mg_min : mg "min" = none := T.free 65
  have mg_len : mg "len" = none := T.free 62
  refine calF T (d := d_law_cells) 66 rfl sc_law_cells rfl rfl (fun _ _ _ _ _ _ us hl => match us, hl with | [_, _], _ => rfl) (len_law_cells K) ?_
  intro cdv A outer s H vs Q E hr h
  have hu := hu_of hr
  obtain ⟨a, ns, rfl, ha, hl, k⟩ := h
  refine ⟨_, (pss_one (ps_ret (pe_listRg rfl (by rfl) mg_list (prg_1 (by rfl) mg_range (pe_callB (call_max2 rfl) (by rfl) mg_max bt_max (pa_cons pe_int (pa_cons (pe_callB (call_min2 rfl) (by rfl) mg_min bt_min (pa_cons (pv 1) (pa_cons (pe_callB call_len_seq (by rfl) mg_len bt_len (pa_cons (pv 0) pa_nil)) pa_nil))) pa_nil))))))), ?_⟩
  refine ⟨_, rfl, _, rfl, a, _, rfl, .inl ha, _, _, rfl, _, _, rfl, _, rfl, ?_⟩
  rw [List.length_map]
  obtain ⟨m, hm, hm3⟩ : ∃ m : Nat, (if (if (ns.length : Int) < 3 then (ns.length : Int) else 3) > 1 then (if (ns.length : Int) < 3 then (ns.length : Int) else 3) else 1) = (m : Nat) ∧ m ≤ 3 := by
    by_cases h1 : (ns.length : Int) < 3
    · rw [if_pos h1]
      by_cases h2 : (ns.length : Int) > 1
      · rw [if_pos h2]; exact ⟨ns.length, rfl, by omega⟩
      · rw [if_neg h2]; exact ⟨1, rfl, by omega⟩
    · rw [if_neg h1]
      exact ⟨3, rfl, by omega⟩
  rw [hm]
  refine ⟨RgOk.of_le (Int.le_refl _) (by omega) (by decide) (by omega), fun q hq => ?_⟩
  refine k _ q m (Same.new hq) ?_ hm3
  rw [upd_same]
  unfold rgV
  rw [Int.sub_zero, Int.toNat_natCast]
theorem sc_law_pot : FnScope ["script", "place", "cell", "own", "small"] ["script", "place"] (defScope s_law_pot) := ⟨rfl, rfl, rfl, by decide +kernel, rfl, by decide +kernel, by decide +kernel⟩
theorem ok_law_pot (T : Tx K mg)  : CalF P w K mg base ("_law_pot", none) 1 ["script", "place"] (sp_law_pot K) := by
  have mg_int : mg "int" = none := T.free 60
  have mg_len : mg "len" = none := T.free 62
  have mg_abs : mg "abs" = none := T.free 54
  have mg_sum : mg "sum" = none := T.free 71
  refine calF T (d := d_law_pot) 62 rfl sc_law_pot rfl rfl (fun _ _ _ _ _ _ us hl => match us, hl with | [_, _], _ => rfl) (len_law_pot K) ?_
  intro cdv A outer s H vs Q E hr h
  have hu := hu_of hr
  obtain ⟨a, ns, pl, rfl, ha, hl, hpl, k⟩ := h
  refine ⟨_, (pss_cons (ps_set (i := 2) sc_law_pot.nd rfl (Or.inl rfl) (pe_ifExp (pt_cmpR op_lt (pv 1) (pe_callB call_len_seq (by rfl) mg_len bt_len (pa_cons (pv 0) pa_nil)) (nomark _)) (pe_ix ix_list (pv 0) (pv 1) (fun _ _ => rfl)) (pe_op op_add (pe_op op_add (pe_op op_mod (pe_callB (cr_sum2 rfl) (by rfl) mg_sum bt_sum (pa_cons (pe_slice sl_list (pv 0) po_none (po_some pe_int)) pa_nil)) pe_int) (pe_op op_mulW pe_int (pv 1))) pe_int)))
      (pss_cons (ps_set (i := 3) sc_law_pot.nd rfl (Or.inl rfl) (pe_op op_mulW (pe_op op_mod (pe_callTy call_int1 (by rfl) mg_int bt_int (pa_cons (pe_callB call_abs (by rfl) mg_abs bt_abs (pa_cons (pv 2) pa_nil)) pa_nil)) (pe_op op_powW (pe_op op_powW pe_int pe_int) pe_int)) (pe_callTy call_int1 (by rfl) mg_int bt_int (pa_cons (pe_cmpR op_ge (pe_callB call_abs (by rfl) mg_abs bt_abs (pa_cons (pv 2) pa_nil)) (pe_op op_powW pe_int pe_int) (nomark _)) pa_nil))))
      (pss_cons (ps_set (i := 4) sc_law_pot.nd rfl (Or.inl rfl) (pe_op op_mod (pe_callTy call_int1 (by rfl) mg_int bt_int (pa_cons (pv 2) pa_nil)) pe_int))
      (pss_one (ps_ret (pe_lst (pa_cons (pv 3) (pa_cons (pe_op op_mod (pe_callTy call_int1 (by rfl) mg_int bt_int (pa_cons (pe_op op_add (pe_op op_add (pe_op op_mulW (pv 4) pe_int) (pe_op op_mulW (pe_op op_mulW pe_int (pv 1)) (pv 1))) pe_int) pa_nil)) pe_int) (pa_cons pe_int pa_nil))))))))), ?_⟩
  have c1 : CPowW 10 60 := by unfold CPowW; decide +kernel
  have c2 : CPowW ((10 : Int) ^ (60 : Int).toNat) 5 := by unfold CPowW; decide +kernel
  have c3 : CPowW 10 18 := by unfold CPowW; decide +kernel
  have p0 : (0 : Int) < ((10 : Int) ^ (60 : Int).toNat) ^ (5 : Int).toNat := by decide +kernel
  have p1 : ((10 : Int) ^ (60 : Int).toNat) ^ (5 : Int).toNat < 2 ^ 1000 := by decide +kernel
  have m1 : ∀ (x : Int) (t : Bool), CMulW (x % ((10 : Int) ^ (60 : Int).toNat) ^ (5 : Int).toNat) (if t then 1 else 0) := fun x t => by
    have h0 := Int.emod_nonneg x (b := ((10 : Int) ^ (60 : Int).toNat) ^ (5 : Int).toNat) (Int.ne_of_gt p0)
    have h1 := Int.emod_lt_of_pos x p0
    refine wide_mul (a := 1000) (b := 2) ?_ (by cases t <;> decide) (by decide) (by decide) (by decide)
    have h2 := Int.lt_trans h1 p1
    omega
  have own0 : ∀ (x : Int) (t : Bool), 0 ≤ x % ((10 : Int) ^ (60 : Int).toNat) ^ (5 : Int).toNat * (if t then 1 else 0) ∧ x % ((10 : Int) ^ (60 : Int).toNat) ^ (5 : Int).toNat * (if t then 1 else 0) < 2 ^ 1000 := fun x t => by
    have h0 := Int.emod_nonneg x (b := ((10 : Int) ^ (60 : Int).toNat) ^ (5 : Int).toNat) (Int.ne_of_gt p0)
    have h1 := Int.emod_lt_of_pos x p0
    cases t with
    | true =>
      rw [if_pos rfl, Int.mul_one]
      exact ⟨h0, Int.lt_trans h1 p1⟩
    | false =>
      rw [if_neg Bool.false_ne_true, Int.mul_zero]
      exact ⟨Int.le_refl _, by decide +kernel⟩
  have q1 : ∀ x : Int, CMulW (x % 2305843009213693951) 44701 := fun x => by
    have h0 := Int.emod_nonneg x (b := 2305843009213693951) (by decide)
    have h1 := Int.emod_lt_of_pos x (b := 2305843009213693951) (by decide)
    exact wide_mul (a := 61) (b := 20) (by show _ < 2305843009213693952; omega) (by decide) (by decide) (by decide) (by decide)
  have pl0 : (0 : Int) + (pl : Nat) < 3 := by omega
  have pl1 : (0 : Int) ≤ 0 + (pl : Nat) := by omega
  have q2 : CMulW 7841 (0 + (pl : Nat)) := wide_mul (a := 20) (b := 20) (by decide) (by show _ < 1048576; omega) (by decide) (by decide) (by decide)
  have q3 : CMulW (7841 * (0 + (pl : Nat))) (0 + (pl : Nat)) := wide_mul (a := 20) (b := 20) (by show _ < 1048576; omega) (by show _ < 1048576; omega) (by decide) (by decide) (by decide)
  have q4 : CMulW 4211 (0 + (pl : Nat)) := wide_mul (a := 20) (b := 20) (by decide) (by show _ < 1048576; omega) (by decide) (by decide) (by decide)
  refine ⟨_, rfl, _, rfl, a, _, rfl, .inl ha, _, _, rfl, rfl, _, rfl, ?_⟩
  rw [List.length_map]
  have fin : ∀ (H1 : Hp) (cell : Int), Same H H1 → ∀ p : Addr, H1 p = none → Q (.ref p) (upd H1 p (.lst [.int (ab cell % ((10 : Int) ^ (60 : Int).toNat) ^ (5 : Int).toNat * (if decide ((10 : Int) ^ (18 : Int).toNat ≤ ab cell) then 1 else 0)), .int ((cell % 2305843009213693951 * 44701 + 7841 * (0 + (pl : Nat)) * (0 + (pl : Nat)) + 1193) % 2305843009213693921), .int 0])) := by
    intro H1 cell s1 p hp
    obtain ⟨o0, o1⟩ := own0 (ab cell) (decide ((10 : Int) ^ (18 : Int).toNat ≤ ab cell))
    have h0 := Int.emod_nonneg (cell % 2305843009213693951 * 44701 + 7841 * (0 + (pl : Nat)) * (0 + (pl : Nat)) + 1193) (b := 2305843009213693921) (by decide)
    have h1 := Int.emod_lt_of_pos (cell % 2305843009213693951 * 44701 + 7841 * (0 + (pl : Nat)) * (0 + (pl : Nat)) + 1193) (b := 2305843009213693921) (by decide)
    exact k _ p (s1.trans (Same.new hp)) (s1.free hp) ⟨_, _, 0, upd_same, o0, o1, h0, Int.lt_trans h1 (by decide), Int.le_refl _, by decide⟩
  refine ite2 (fun h => ?_) (fun h => ?_)
  · have hlt : pl < ns.length := by have := of_decide_eq_true h; omega
    have hat : atI (ns.map V.int) (0 + (pl : Nat)) = some (.int ns[pl]) := by
      rw [Int.zero_add]
      exact atI_nat (by rw [List.getElem?_map, List.getElem?_eq_getElem hlt]; rfl)
    refine ⟨_, rfl, _, rfl, a, _, _, _, rfl, rfl, ha, hat, ?_⟩
    refine ⟨_, rfl, _, rfl, .inl ⟨_, rfl, _, _, rfl, rfl, c1, _, _, rfl, rfl, c2, _, _, rfl, rfl, p0, _, rfl, _, rfl, _, _, rfl, rfl, c3, _, _, rfl, rfl, .inr ⟨_, rfl, _, _, rfl, rfl, m1 _ _, ?_⟩⟩⟩
    refine ⟨_, rfl, .inl ⟨_, rfl, _, _, rfl, rfl, (by show (0 : Int) < 2305843009213693951; decide), ?_⟩⟩
    refine ⟨_, rfl, _, rfl, _, _, rfl, rfl, q1 _, _, rfl, _, _, rfl, rfl, q2, _, rfl, _, _, rfl, rfl, q3, _, _, rfl, rfl, _, _, rfl, rfl, .inl ⟨_, rfl, _, _, rfl, rfl, (by show (0 : Int) < 2305843009213693921; decide), by show 3 ≤ sizeLine; decide, fun p hp => ?_⟩⟩
    exact fin H _ (Same.refl _) p hp
  · refine ⟨_, rfl, _, rfl, a, _, rfl, ha, fun b hb => ?_⟩
    have e1 : cutV (ns.map V.int) none (some 1) = (ns.take 1).map V.int := by
      rw [List.map_take]
      exact cut_take (ns.map V.int) 1
    refine ⟨b, ns.take 1, rfl, by rw [← e1]; exact upd_same, _, _, rfl, rfl, (by show (0 : Int) < 1000507; decide), _, rfl, _, _, rfl, rfl, q4, _, _, rfl, rfl, _, _, rfl, rfl, ?_⟩
    refine ⟨_, rfl, _, rfl, .inl ⟨_, rfl, _, _, rfl, rfl, c1, _, _, rfl, rfl, c2, _, _, rfl, rfl, p0, _, rfl, _, rfl, _, _, rfl, rfl, c3, _, _, rfl, rfl, .inr ⟨_, rfl, _, _, rfl, rfl, m1 _ _, ?_⟩⟩⟩
    refine ⟨_, rfl, .inl ⟨_, rfl, _, _, rfl, rfl, (by show (0 : Int) < 2305843009213693951; decide), ?_⟩⟩
    refine ⟨_, rfl, _, rfl, _, _, rfl, rfl, q1 _, _, rfl, _, _, rfl, rfl, q2, _, rfl, _, _, rfl, rfl, q3, _, _, rfl, rfl, _, _, rfl, rfl, .inl ⟨_, rfl, _, _, rfl, rfl, (by show (0 : Int) < 2305843009213693921; decide), by show 3 ≤ sizeLine; decide, fun p hp => ?_⟩⟩
    exact fin _ _ (Same.new hb) p hp
end
end Nt
set_option maxRecDepth 100000
set_option maxHeartbeats 1000000
/-! NtL7: a tuple of ints that is not among tuples. -/
namespace Nt
open PySem PySem.Spec PyProof.Rows L2
theorem dp_cls {K : PySem.W.Frag} {H : Hp} : ∀ as : List Cl, CLs H as → DpAll K H (as.map rf) (as.map fun x => dT x.2)
  | [], _ => .nil
  | a :: as, h => .cons (dT_dp (h a List.mem_cons_self)) (dp_cls as fun x hx => h x (List.mem_cons_of_mem _ hx))
theorem lay_cls : ∀ as : List Cl, PyData.canLayAll0 (as.map fun x => dT x.2) = true
  | [] => by simp [PyData.canLayAll0]
  | a :: as => by
    have h1 : PyData.canLay0 (dT a.2) = true := by simp only [dT, PyData.canLay0, lay_ints]
    simp only [List.map_cons, PyData.canLayAll0, lay_cls as, h1]; rfl
theorem eqv_cls (ns : List Int) : ∀ as : List Cl, ((as.map fun x => dT x.2).any fun z => PyData.eqv z (dT ns)) = decide (ns ∈ as.map (·.2))
  | [] => by simp
  | a :: as => by
    have e : PyData.eqv (dT a.2) (dT ns) = decide (a.2 = ns) := by simp only [dT, PyData.eqv, eqv_ints]
    rw [List.map_cons, List.any_cons, eqv_cls ns as, e, List.map_cons, Bool.eq_iff_iff]
    simp only [Bool.or_eq_true, decide_eq_true_eq, List.mem_cons]
    exact ⟨fun h => h.imp Eq.symm id, fun h => h.imp Eq.symm id⟩
section
variable {X : Cx}
def rNotInT : R2 := fun x y H Q => ∃ (a b : Addr) (ns : List Int) (as : List Cl), x = .ref a ∧ y = .ref b ∧ H a = some (.tup (ns.map V.int)) ∧ H b = some (.tup (as.map rf)) ∧ CLs H as ∧ Q (.bl (!decide (ns ∈ as.map (·.2)))) H
theorem op_notInT (hu : X.A.units + 64 < cLine) : OpR X (compareOp .NotIn) rNotInT := by
  rintro pins s σ H x y v u Q I rx ry ⟨a, b, ns, as, rfl, rfl, h1, h2, hc, q⟩
  obtain ⟨xs, r1⟩ := Dp.reads I _ _ v (dT_dp (K := X.K) h1) rx
  obtain ⟨ys, r2⟩ := Dp.reads I (.tuple (as.map fun x => dT x.2)) _ u (.tup (SqT.of h2) (dp_cls as hc)) ry
  have hd : PyData.depth (dT ns) ≤ 1 := by simp only [dT, PyData.depth, dep_ints]; decide
  exact SeqAt.notIn_tuple_reads r2 r1 (lay_cls as) (by simp only [dT, PyData.canLay0, lay_ints]) (by omega) ⟨.bl _, H, I, by rw [eqv_cls]; rfl, q⟩
end
end Nt
namespace Nt
open PySem PyProof.Rows
section
variable {prog : Program} {w : World} {A : Around} {E : Value → Shared → Prop} {s : Shared}
theorem collect_tup {l : Addr} {vs : List Value} {Q : List Value → Shared → Prop} (hl : s.heap.IsTuple l vs.toArray)
    (h : Q vs { s with heap := (s.heap.push (seqObj "list" #[] 0)).update s.heap.objs.size (Obj.mapSeq (· ++ vs.toArray)) }) (hsz : vs.length ≤ sizeLine) :
    wpAny (model prog w) A (collect (.ref l)) Q E s := by
  obtain ⟨o, ho, hc, n, hd⟩ := id hl
  unfold collect
  refine wpAny_bind (wpAny_runValue (codeAny_builtin entry_proto_collect' ?_))
  show wpAny _ _ (do again (.builtin "list.__iadd__" ⟨[← newList [], .ref l], []⟩)) _ _ s
  refine wpAny_bind (wpAny_newList (wpAny_pure ⟨Code.quiet_builtin _ (by decide +kernel), codeAny_builtin entry_list_iadd' ?_⟩))
  show wpAny _ _ (Builtin.List.listExtendWith (.ref s.heap.objs.size) (.ref l) (.ref s.heap.objs.size)) _ _ { s with heap := s.heap.push (seqObj "list" #[] 0) }
  unfold Builtin.List.listExtendWith
  have ho' : (s.heap.push (seqObj "list" #[] 0)).get? l = some o := Heap.get?_push_of_some _ ho
  refine wpAny_bind (wpAny_typeOf (T := "tuple") ⟨o, ho', hc⟩ ?_)
  have ht : (Value.type "tuple" == Value.type "tuple") = true := by rfl
  rw [if_pos (by rw [ht]; simp)]
  refine wpAny_bind (listItems_at ho' hd ?_)
  refine wpAny_bind (listItems_at (xs := #[]) (n := 0) (Heap.get?_push_size _ rfl) rfl ?_)
  rw [if_neg (by simp)]
  refine wpAny_bind (listUpdate_at (xs := #[]) (n := 0) (Heap.get?_push_size _ rfl) rfl ?_ (Nat.zero_le _) (by show (#[] ++ vs.toArray).size ≤ sizeLine + 1; simp only [Array.size_append, List.size_toArray, List.length_nil]; omega))
  refine wpAny_pure ?_
  show wpAny (model prog w) A (do
      let o ← load s.heap.objs.size
      match o.data with
      | .seq xs _ => pure xs.toList
      | _ => unsupported "internal:collect") Q E { s with heap := (s.heap.push (seqObj "list" #[] 0)).update s.heap.objs.size (Obj.mapSeq (· ++ vs.toArray)) }
  refine wpAny_bind (wpAny_load (get?_update_seq (Heap.get?_push_size _ rfl) _) ?_)
  show wpAny _ _ (pure ((#[] : Array Value) ++ vs.toArray).toList) Q E _
  rw [show ((#[] : Array Value) ++ vs.toArray).toList = vs by simp]
  exact wpAny_pure h
theorem sorted_tup {l : Addr} {vs : List Value} {ltv : Value → Value → Bool} {Q : Value → Shared → Prop} (O : SrtO.Swo ltv) (hl : s.heap.IsTuple l vs.toArray) (hz : vs.length ≤ sizeLine)
    (hS : 2 ≤ vs.length → ∀ (h₁ : Heap) (a : Addr), SrtO.SortableO prog w A.in1.in1 { s with heap := h₁ } a vs ltv)
    (h : ∀ out : List Value, SrtO.Srtd ltv out → SrtO.Stb ltv out vs → Q (.ref (s.heap.objs.size + 1)) { s with heap := sortedAll s.heap vs out.toArray }) :
    wpAny (model prog w) A (call (.builtin "sorted") [.ref l]) Q E s := by
  refine Calls.call_function_entry kind_sorted plain_sorted entry_sorted (args_sorted1 _) ?_
  unfold Builtin.«sorted»
  refine wpAny_bind (m := checkCount "sorted" 1 1 _) (wpAny_pure ?_)
  refine wpAny_bind (collect_tup hl ?_ hz)
  refine wpAny_bind (wpAny_newList ?_ hz)
  have hsz : ((s.heap.push (seqObj "list" #[] 0)).update s.heap.objs.size (Obj.mapSeq (· ++ vs.toArray))).objs.size = s.heap.objs.size + 1 := by
    rw [Heap.size_update, size_push']
  have hoL : (((s.heap.push (seqObj "list" #[] 0)).update s.heap.objs.size (Obj.mapSeq (· ++ vs.toArray))).push (seqObj "list" vs.toArray 0)).get? (s.heap.objs.size + 1) = some (seqObj "list" vs.toArray 0) := by
    rw [← hsz]; exact Heap.get?_push_size _ rfl
  show wpAny _ _ _ _ _ { s with heap := ((s.heap.push (seqObj "list" #[] 0)).update s.heap.objs.size (Obj.mapSeq (· ++ vs.toArray))).push (seqObj "list" vs.toArray 0) }
  rw [hsz]
  refine wpAny_bind (wpAny_holding (wpAny_call_entry slot_list_sort ⟨_, hoL, rfl⟩ entry_list_sort (SrtO.list_sort_ord O hoL hz (fun h2 => hS h2 _ _) fun out hs hb => ⟨_, rfl, ?_⟩) (args_list_sort _)))
  exact wpAny_pure ⟨_, rfl, h out hs hb⟩
end
end Nt
namespace Nt
open PySem PySem.Spec PyProof.Rows L2
section
variable {X : Cx}
/-- sorted(t), a tuple of ints -/
def rSortedTp : List V → Hp → VK → Prop := fun vs H Q => ∃ (a : Addr) (ns : List Int), vs = [V.ref a] ∧ H a = some (.tup (ns.map V.int)) ∧ ∀ (p : Addr), H p = none → Q (.ref p) (upd H p (.lst ((srt ns).map V.int)))
theorem cr_sortedTp : CallR X (.builtin "sorted") rSortedTp := by
  intro pins s σ H vs us Q I r h
  obtain ⟨a, ns, rfl, ha, q⟩ := h
  obtain ⟨its, rv, hl, hz⟩ := I.tuple (SqT.of ha)
  rw [Vals.ref1 r]
  have hi := rv.ints
  refine sorted_tup SrtO.swo_int hl (by rw [← rv.length]; exact hz) (fun h2 h₁ a' => SrtO.ints_sortable hi h2) fun out h1 h2 => ?_
  obtain ⟨k1, k2, k3⟩ := SrtO.ints_out hi h1 h2
  obtain ⟨ep, he'⟩ := PyProof.Rows.sortedAll_at s.heap its out.toArray
  have hlen : ((out.map SrtO.iv).map V.int).length ≤ sizeLine := by
    rw [List.length_map, k2.length_eq]
    rw [List.length_map] at hz
    exact hz
  have e := srt_one k2 k3
  exact ⟨.ref _, upd H (s.heap.objs.size + 1) (.lst ((out.map SrtO.iv).map V.int)), I.laid (t' := s.toks) (fun _ _ => PyProof.Rows.sortedAll_old) (Nat.le_succ _) ⟨hlen, out, ep, vals_of_ints k1, he'⟩, rfl, by rw [e]; exact q _ (I.hok.fresh (Nat.le_succ _))⟩
end
end Nt
set_option maxRecDepth 100000
set_option maxHeartbeats 2000000
/-! NtGd: functions that are called where no text of a container is under way (repr of tuples tells the whole text then). -/
namespace Nt
open PySem PySem.Spec PyProof.Rows L2
/-- a promise kept where no guard stands -/
structure FnOkG (P : Program) (w : World) (K : PySem.W.Frag) (mg : Str → Option Value) (base : Heap) (CX : CXT) (k : Nat) (f : Addr) (fd : FuncData) (ps : List Str) (sp : Sp) : Prop where
  len : ∀ vs H Q E, sp vs H Q E → vs.length = ps.length
  run : ∀ (A : Around) (outer : List Env) (s : Shared) (H : Hp) (args : Args) (us : List Value) (vs : List V) (Q : VK) (E : XK), A.guards = some [] → Room k A → Env0 P w K mg base A outer s H → BindsTo s fd args (ps.zip us) → Vals vs us → sp vs H Q E →
    codeAny (model P w) A (.call (.ref f) args) (CR CX outer P w H s Q E) s
section
variable {X : Cx} {CX : CXT} {k : Nat} {f : Addr} {fd : FuncData} {ps : List Str} {sp : Sp} {dvs : List V} {ds : List Value} {E : XK} {x : Str} {p pos : Pos} {e : Expr} {es : List Expr} {t : TA}
theorem pe_callG (F : FnOkG X.prog X.w X.K X.mg X.base CX k f fd ps sp) (gd : X.A.guards = some []) (hr : Room k X.A) (hg : Gl X x) (hm : X.mg x = some (.ref f)) (hk : PySem.W.keepIn X.K (.ref f) = true) (hb : Binds X.K fd ps ds) (hd : Vals dvs ds) (hx : Passes CX X E)
    (ha : PA X (e :: es) t) (hdb : (x == ("__debug__" : Str)) = false := by decide) (he : starEach (e :: es) X.env = (false, eval e X.env) :: starEach es X.env := by rfl) (hpl : (backTo pos (starEach es X.env)).any (·.1) = false := by rfl) :
    PE X (.Call (.Name x p) (e :: es) [] pos) (tCall sp dvs E t) := by
  refine ⟨fun pins s σ H Q I h => wpAny_Call_Name_kw (ld_glob I hg hm (PySem.W.callWith_K (h₀ := X.base) I.ok.mod.kin hk (thn (ha.run pos pins s σ H _ I h) fun us s1 ⟨vs, H1, I1, r, q⟩ => ⟨I1.kIn, ?_⟩) he hpl) hdb)⟩
  have r2 := r.append hd
  have hl : (us ++ ds).length = ps.length := r2.length ▸ F.len _ _ _ _ q
  refine wpAny_call (codeAny_mono (F.run X.A X.stack s1 H1 ⟨us, []⟩ _ _ Q E gd hr I1.env0 (hb s1 us I1.kIn hl) r2 q) fun r s' hq => ?_)
  match r, hq with
  | .error e, hq => exact hx pins σ H1 s1 e s' I1 hq
  | .ok (.ret u), hq => exact I1.after hq
end
/-- a def's promise, from its body where no guard stands -/
theorem okG {P : Program} {w : World} {K : PySem.W.Frag} {mg : Str → Option Value} {base : Heap} {CX : CXT} {k : Nat} {f : Addr} {name qual : Str} {params : Arguments} {body : List Stmt} {scope : Scope} {dvs : List V} {kws : List (Str × V)} {fd : FuncData} {N ps : List Str} {sp : Sp}
    (F : FunD K name qual params body scope dvs kws f fd) (S : FnScope N ps scope) (len : ∀ vs H Q E, sp vs H Q E → vs.length = ps.length)
    (hbody : ∀ (cdv : Value) (A : Around) (outer : List Env) (s : Shared) (H : Hp) (vs : List V) (Q : VK) (E : XK), (A.deeper (envOfC qual scope s.heap.objs.size f cdv)).guards = some [] → Room k (A.deeper (envOfC qual scope s.heap.objs.size f cdv)) → sp vs H Q E →
      ∃ t, PSs (cxOf CX P w K mg base N qual scope f cdv A outer s H E) body t ∧ t { nx := fun _ H' => Q .non H', rt := Q } (start N vs) H) : FnOkG P w K mg base CX (k + 1) f fd ps sp := by
  obtain ⟨oc, od, dV, kV, doc, pm, an, cdv, ct, osl, rfl, lk, hcd, _, _⟩ := F.ex
  refine ⟨len, fun A outer s H args us vs Q E gd hr e0 hb r hsp => ?_⟩
  have old := fun b o e => (e0.bs b o e).1
  have KX := e0.mod.kin.keeps old
  refine codeAny_call_function hr.depth (KX _ _ lk) rfl S.co S.gen rfl (PySem.W.codeRec_of KX hcd) (hb _ _ _ _ (wpAny_newFunctionEnv_cells S.kind (fun ⟨n, v⟩ hy => ?_) fun env he s1 x => ?_))
  · exact (S.par n (List.of_mem_zip hy).1).imp id fun q => ⟨q, PySem.W.cellsFrom_some _ _ _ (.inl q)⟩
  subst he
  refine ⟨(e0.mod.nolimit.keeps old).keeps x.toInCall.keep, codeAny_func ?_⟩
  obtain ⟨t, ht, hq⟩ := hbody cdv A outer s H vs Q E gd (hr.deeper _) hsp
  refine wpAny_mono (ht.run [] s1 (start N vs) H _ (inv_start S hr.hd e0 (len _ _ _ _ hsp) r x) hq) (fun fl s' hs => ?_) fun e s' hs => hs
  match fl, hs with
  | .ret u, hs =>
    obtain ⟨v, σ', H', J, rv, q⟩ := hs
    exact ⟨v, H', J.os, J.bare, J.base, J.hok, rv, q⟩
  | .next, hs =>
    obtain ⟨σ', H', J, q⟩ := hs
    exact ⟨V.non, H', J.os, J.bare, J.base, J.hok, rfl, q⟩
  | .brk, hs =>
    obtain ⟨_, _, _, q⟩ := hs
    exact False.elim q
  | .cont, hs =>
    obtain ⟨_, _, _, q⟩ := hs
    exact False.elim q
/-- the law's run from its promise, no guard standing -/
theorem runG {P : Program} {w : World} {K : PySem.W.Frag} {mg mb : Str → Option Value} {k : Nat} {fa a : Addr} {fd : FuncData} {x : Str} {sp : Sp} {s₁ : Shared} {vs : List Value} {ns : List Int}
    (KX : K.In s₁.heap) (hns : s₁.heap.Ns mainGlobals mg) (hb : s₁.heap.Ns builtinsNs mb) (hbb : ∀ x : Str, x ≠ "__name__" → mb x = bootBuiltins x) (hlim : s₁.heap.NoLimit) (hg : s₁.gens = #[])
    (ha : s₁.heap.get? a = some { cls := .type "list", data := .seq vs.toArray }) (hi : IntsAre vs ns) (hl : ns.length ≤ sizeLine) (hr : Room k callerA)
    (F : ∀ base : Heap, K.In base → base.Ns mainGlobals mg → FnOkG P w K mg base CX0 k fa fd [x] sp) (hbind : ∀ (s : Shared) (u : Value), BindsTo s fd ⟨[u], []⟩ [(x, u)])
    (hsp : ∀ H : Hp, Only H → SqL K H a (ns.map V.int) → sp [.ref a] H (fun v _ => v = .bl true) fun _ _ _ => False) :
    codeAny (model P w) callerA (.call (.ref fa) ⟨[.ref a], []⟩) (fun r s' => r = .ok (.ret (.bool true)) ∧ OldK s₁.heap s'.heap ∧ s'.os = s₁.os ∧ AllBare s'.gens) s₁ := by
  have rv := vals_ints hi
  -- what is tracked: the script, if it is no object of the module
  obtain ⟨H, hO, hS, hok, hA, hK⟩ : ∃ H : Hp, Only H ∧ SqL K H a (ns.map V.int) ∧ HOk P w H s₁.heap ∧ (∀ b, H b ≠ none → b = a) ∧ (H a ≠ none → K.lookup a = none) := by
    cases hk : K.lookup a with
    | some o =>
      have e := KX a o hk
      rw [ha] at e
      cases e
      exact ⟨fun _ => none, fun _ => .inl rfl, .inr ⟨_, vs.toArray, _, hk, rfl, rfl, rfl, by rw [List.size_toArray, hi.length]; exact hl, by simpa using rv⟩, fun b u z => (nomatch (show (none : Option HO) = some u from z)), fun b z => absurd rfl z, fun z => absurd rfl z⟩
    | none =>
      let H : Hp := fun b => if b = a then some (.frz { cls := .type "list", data := .seq vs.toArray } (.lst (ns.map V.int))) else none
      have off : ∀ b, b ≠ a → H b = none := fun b n => if_neg n
      have at_ : H a = some (.frz { cls := .type "list", data := .seq vs.toArray } (.lst (ns.map V.int))) := if_pos rfl
      refine ⟨H, fun b => ?_, .inl (.inr ⟨_, at_⟩), fun b u z => ?_, fun b z => Decidable.byContradiction fun n => z (off b n), fun _ => rfl⟩
      · by_cases n : b = a
        · exact .inr ⟨_, _, n ▸ at_⟩
        · exact .inl (off b n)
      · by_cases n : b = a
        · subst n
          rw [at_] at z
          cases z
          exact ⟨ha, by rw [List.length_map]; exact hl, vs, _, rv, ha⟩
        · rw [off b n] at z; cases z
  -- the base: all but the script
  have free : ∀ {b : Addr} {o : Obj}, s₁.heap.get? b = some o → (b = a → o ≠ { cls := .type "list", data := .seq vs.toArray }) → (hidT s₁.heap H).get? b = some o := fun {b o} e n => hidT_get e (by
    cases q : H b with
    | none => rfl
    | some u =>
      have e' := hA b (by rw [q]; exact fun z => nomatch z)
      exact absurd (Option.some.inj (e.symm.trans (e' ▸ ha))) (n e'))
  have nsK : ∀ {b : Addr} {m : Str → Option Value}, s₁.heap.Ns b m → (hidT s₁.heap H).Ns b m := fun ⟨o, es, ep, e, d, r⟩ => ⟨o, es, ep, free e (fun _ z => by rw [z] at d; cases d), d, r⟩
  have hKb : K.In (hidT s₁.heap H) := fun b o e => hidT_get (KX b o e) (by
    cases q : H b with
    | none => rfl
    | some u =>
      have e' := hA b (by rw [q]; exact fun z => nomatch z)
      subst e'
      have := hK (by rw [q]; exact fun z => nomatch z)
      rw [e] at this; cases this)
  have e0 : Env0 P w K mg (hidT s₁.heap H) callerA [] s₁ H := ⟨rfl, ⟨hKb, nsK hns, ⟨mb, nsK hb, hbb⟩, let ⟨mc, h1, h2⟩ := hlim; ⟨mc, nsK h1, h2⟩⟩, fun b o e => of_hidT e, Nat.le_of_eq (hidT_size _ _), trivial, fun b hb => absurd (show b ∈ ([] : List Addr) from hb) List.not_mem_nil, hok, .of_eq hg⟩
  refine codeAny_mono ((F _ hKb (nsK hns)).run callerA [] s₁ H ⟨[.ref a], []⟩ [.ref a] [.ref a] _ _ rfl hr e0 (hbind s₁ (.ref a)) (.cons rfl .nil) (hsp H hO hS)) fun r s' h => ?_
  match r, h with
  | .error e, h => exact False.elim h
  | .ok (.ret u), ⟨v, H', os, bare, un, hok', r', q⟩ =>
    have q : v = .bl true := q
    subst q
    obtain rfl : u = Value.bool true := r'
    refine ⟨rfl, OldK.of_keep fun b o e => ?_, os, bare⟩
    rcases hO b with z | ⟨ob, xs, z⟩
    · exact un.keep b o e z (fun z => absurd (show b ∈ ([] : List Addr) from z) List.not_mem_nil) List.not_mem_nil
    · obtain ⟨e1, _⟩ := hok b _ z
      obtain ⟨e2, _⟩ := hok' b _ (un.frzs b ob _ z)
      rw [e] at e1
      cases e1
      exact e2
theorem walkG {l : PySem.W.OpenLaw} {n k : Nat} {q : Program} {loose : List Str} {XP : (Str → Option Value) → Heap → Prop} {YP : World → Heap → Prop} {d : DefRec} {x : Str}
    (hn : l.most = some n) (hn2 : n ≤ sizeLine) (hdf : d.params.defaults = []) (hr : Room k callerA)
    (F : ∀ (w : World) (mg : Str → Option Value) (fa : Addr) (h : Heap), YP w h → h.Ns mainGlobals mg → mg d.name = some (.ref fa) →
      ∃ (K : PySem.W.Frag) (fd : FuncData) (sp : Sp), K.In h ∧ (∀ (s : Shared) (u : Value), BindsTo s fd ⟨[u], []⟩ [(x, u)]) ∧
        (∀ (H : Hp) (a : Addr) (ns : List Int), ns.length ≤ n → Only H → SqL K H a (ns.map V.int) → sp [.ref a] H (fun v _ => v = .bl true) fun _ _ _ => False) ∧
        ∀ base : Heap, K.In base → base.Ns mainGlobals mg → FnOkG l.prog w K mg base CX0 k fa fd [x] sp) :
    PySem.W.WalkO q loose XP YP l.row.toRowW d [] (fun f vs => PySem.call f vs) :=
  Att.attach_call hn hdf fun w s₀ s₁ mg mb fa o pm cd doc a vs ns G Y ho hd hcd hmg hobj hints hlen hg => by
    obtain ⟨K, fd, sp, KX, hb, hsp, hF⟩ := F w mg fa _ Y G.T.g hmg
    exact runG KX G.T.g G.T.b G.T.builtins G.T.nolimit hg hobj hints (Nat.le_trans hlen hn2) hr hF hb fun H hO hS => hsp H a ns hlen hO hS
/-! ### the text of a tuple of ints -/
theorem txt_len {n : Int} (h : -16 ≤ n ∧ n ≤ 16) : ((toString n : String) : Str).length ≤ 3 := by
  have key : ∀ i : Fin 33, (((toString ((i.val : Int) - 16) : String) : Str)).length ≤ 3 := by decide +kernel
  have := key ⟨(n + 16).toNat, by omega⟩
  have e : (((n + 16).toNat : Nat) : Int) - 16 = n := by omega
  have this : (((toString ((((n + 16).toNat : Nat) : Int) - 16) : String) : Str)).length ≤ 3 := this
  rw [e] at this
  exact this
theorem shown_ints : ∀ ns : List Int, (∀ n ∈ ns, -16 ≤ n ∧ n ≤ 16) → piled (PyData.shownAll (ns.map PyData.int)) ≤ 5 * ns.length
  | [], _ => Nat.zero_le _
  | n :: ns, h => by
    have h1 := shown_ints ns fun x hx => h x (List.mem_cons_of_mem _ hx)
    have h2 := txt_len (h n List.mem_cons_self)
    have e : PyData.shownAll ((n :: ns).map PyData.int) = ((toString n : String) : Str) :: PyData.shownAll (ns.map PyData.int) := by simp only [List.map_cons, PyData.shownAll, PyData.shown]
    rw [e, piled_cons, List.length_cons]
    omega
theorem show_ok : ∀ ns : List Int, (∀ n ∈ ns, -16 ≤ n ∧ n ≤ 16) → PyData.showableAll (ns.map PyData.int) = true
  | [], _ => by simp [PyData.showableAll]
  | n :: ns, h => by
    have h1 := h n List.mem_cons_self
    have h2 : n.natAbs.log2 < 1920 := Nat.lt_of_le_of_lt (Nat.log2_le_self _) (by omega)
    simp [PyData.showableAll, PyData.showable, h2, show_ok ns fun x hx => h x (List.mem_cons_of_mem _ hx)]
section
variable {X : Cx}
def rRepr : List V → Hp → VK → Prop := fun xs H Q => (xs = [.non] ∧ Q (.str "None") H) ∨ ∃ (a : Addr) (ns : List Int), xs = [.ref a] ∧ H a = some (.tup (ns.map V.int)) ∧ (∀ n ∈ ns, -16 ≤ n ∧ n ≤ 16) ∧ ns.length ≤ 1000 ∧ Q (.str (dT ns).shown) H
theorem cr_repr (gd : X.A.guards = some []) (hu : X.A.units + 64 < cLine) : CallR X (.builtin "repr") rRepr := by
  intro pins s σ H xs us Q I r h
  rcases h with ⟨rfl, q⟩ | ⟨a, ns, rfl, ha, hn, hl, q⟩
  · obtain ⟨u, rfl, h⟩ := vals1 r
    obtain rfl : u = Value.none := h
    exact PySem.P.repr_of_none ⟨.str _, H, I.tok _, ⟨_, rfl⟩, q⟩
  · rw [Vals.ref1 r]
    obtain ⟨as, rr⟩ := Dp.reads I _ _ _ (dT_dp (K := X.K) ha) (show RelV (.ref a) (.ref a) from rfl)
    have hsz : (dT ns).shown.length ≤ sizeLine := by
      have h1 := shown_ints ns hn
      have h2 := fmt_text (PyData.shownAll (ns.map PyData.int))
      have e : (dT ns).shown = tupleText (PyData.shownAll (ns.map PyData.int)) := by simp only [dT, PyData.shown]
      have : sizeLine = 16777216 := rfl
      rw [e]; omega
    have hd : PyData.depth (dT ns) ≤ 1 := by simp only [dT, PyData.depth, dep_ints]; decide
    exact repr_of_reads' rr (by simp only [dT, PyData.showable, show_ok ns hn]) (PyData.noDict_hsm (PyData.hasDict_of_canLay _ (by simp only [dT, PyData.canLay0, lay_ints]))) gd (by omega) (fun _ _ e => e) (fun h' u tk k => ⟨.str _, H, I.kept k, ⟨_, rfl⟩, q⟩) hsz
end
/-- the def at a place keeps its promise where no guard stands -/
def CalG (P : Program) (w : World) (K : PySem.W.Frag) (mg : Str → Option Value) (base : Heap) (p : Str × Option Str) (k : Nat) (ps : List Str) (sp : Sp) : Prop :=
  ∃ fd, Binds K fd ps [] ∧ FnOkG P w K mg base CX0 k (He.fAd K p) fd ps sp ∧ PySem.W.keepIn K (.ref (He.fAd K p)) = true
/-- .. of whichever data it stands for -/
def CalLG (P : Program) (w : World) (K : PySem.W.Frag) (mg : Str → Option Value) (base : Heap) (d : He.DefD) (k : Nat) (ps : List Str) (sp : Sp) : Prop :=
  ∀ fd, FunD K d.name d.qual d.params d.body d.scope [] [] (He.fAd K d.at_) fd → FnOkG P w K mg base CX0 k (He.fAd K d.at_) fd ps sp
section
variable {P : Program} {w : World} {K : PySem.W.Frag} {mg : Str → Option Value} {base : Heap} {d : He.DefD} {N ps : List Str} {k : Nat} {sp : Sp}
theorem calLG (T : Tx K mg) (i : Nat) (hi : fn[i]? = some d) (S : FnScope N ps d.scope) (hd : d.dfl = []) (hk : d.kwd = [])
    (hb : ∀ (kV doc pm : Value) (an : Option Addr) (cdv ct : Value) (us : List Value), us.length = ps.length → bindArgs (PySem.W.fnOf d.name d.qual d.params d.body d.scope .none kV doc pm an cdv ct) ⟨us, []⟩ = pure (ps.zip us))
    (len : ∀ vs H Q E, sp vs H Q E → vs.length = ps.length)
    (body : ∀ (cdv : Value) (A : Around) (outer : List Env) (s : Shared) (H : Hp) (vs : List V) (Q : VK) (E : XK), (A.deeper (envOfC d.qual d.scope s.heap.objs.size (He.fAd K d.at_) cdv)).guards = some [] → Room k (A.deeper (envOfC d.qual d.scope s.heap.objs.size (He.fAd K d.at_) cdv)) → sp vs H Q E →
      ∃ t, PSs (cxOf CX0 P w K mg base N d.qual d.scope (He.fAd K d.at_) cdv A outer s H E).nox d.body t ∧ t { nx := fun _ H' => Q .non H', rt := Q } (start N vs) H) : CalLG P w K mg base d (k + 1) ps sp :=
  fun fd F => okG F S len fun cdv A outer s H vs Q E gd hr h => (body cdv A outer s H vs Q E gd hr h).imp fun _ z => ⟨z.1.nox, z.2⟩
theorem calG (T : Tx K mg) (i : Nat) (hi : fn[i]? = some d) (S : FnScope N ps d.scope) (hd : d.dfl = []) (hk : d.kwd = [])
    (hb : ∀ (kV doc pm : Value) (an : Option Addr) (cdv ct : Value) (us : List Value), us.length = ps.length → bindArgs (PySem.W.fnOf d.name d.qual d.params d.body d.scope .none kV doc pm an cdv ct) ⟨us, []⟩ = pure (ps.zip us))
    (len : ∀ vs H Q E, sp vs H Q E → vs.length = ps.length)
    (body : ∀ (cdv : Value) (A : Around) (outer : List Env) (s : Shared) (H : Hp) (vs : List V) (Q : VK) (E : XK), (A.deeper (envOfC d.qual d.scope s.heap.objs.size (He.fAd K d.at_) cdv)).guards = some [] → Room k (A.deeper (envOfC d.qual d.scope s.heap.objs.size (He.fAd K d.at_) cdv)) → sp vs H Q E →
      ∃ t, PSs (cxOf CX0 P w K mg base N d.qual d.scope (He.fAd K d.at_) cdv A outer s H E).nox d.body t ∧ t { nx := fun _ H' => Q .non H', rt := Q } (start N vs) H) : CalG P w K mg base d.at_ (k + 1) ps sp := by
  obtain ⟨fd, F⟩ := T.says.def_ i hi
  unfold He.DefD.dvs He.DefD.kws at F
  rw [hd, hk] at F
  have F' : FunD K d.name d.qual d.params d.body d.scope [] [] (He.fAd K d.at_) fd := F
  exact ⟨fd, F'.bindsN hb, calLG T i hi S hd hk hb len body fd F', F'.kp⟩
end
end Nt
set_option maxRecDepth 100000
set_option maxHeartbeats 1000000
/-! NtJ: one bundle or the other: the law's small ones. -/
namespace Nt
open PySem PySem.Spec PyProof.Rows L2
def sp_law_clauses (K : PySem.W.Frag) : Sp := fun vs H Q _ => ∃ (p : Addr) (D n : Nat), vs = [.ref p, .int (1 + (D : Nat)), .int 12] ∧ D < 16 ∧ Pot H p (n + 999) ∧ ∀ H' q as, Ke p H H' → Pot H' p n → H' q = some (.tup (as.map rf)) → CLs H' as → as.length ≤ 12 → (∀ x ∈ as, isCl (1 + (D : Nat)) x.2 = true ∧ x.2.length ≤ 3) → Q (.ref q) H'
theorem len_law_clauses (K : PySem.W.Frag) : ∀ vs H Q E, sp_law_clauses K vs H Q E → vs.length = 3 := by
  rintro vs H Q E ⟨p, D, n, rfl, _⟩; rfl
def wl (l : Int) (c : List Int) : List Int := srt (c ++ [l])
def sp_law_with (K : PySem.W.Frag) : Sp := fun vs H Q _ => ∃ (a : Addr) (l : Int) (as : List Cl), vs = [.ref a, .int l] ∧ H a = some (.tup (as.map rf)) ∧ CLs H as ∧ as.length ≤ 60000 ∧ (∀ x ∈ as, x.2.length ≤ 1000) ∧ ∀ H' q bs, Same H H' → H' q = some (.tup (bs.map rf)) → CLs H' bs → bs.map (·.2) = as.map (fun x => wl l x.2) → Q (.ref q) H'
theorem len_law_with (K : PySem.W.Frag) : ∀ vs H Q E, sp_law_with K vs H Q E → vs.length = 2 := by
  rintro vs H Q E ⟨a, l, as, rfl, _⟩; rfl
def sp_law_all_hold (K : PySem.W.Frag) : Sp := fun vs H Q _ => ∃ (a b : Addr) (as : List Cl) (row : List Int), vs = [.ref a, .ref b] ∧ H a = some (.tup (as.map rf)) ∧ CLs H as ∧ as.length ≤ 60000 ∧ (∀ x ∈ as, x.2.length ≤ 1000) ∧ H b = some (.tup (row.map V.int)) ∧ ∀ H', Same H H' → Q (.bl (doHold (as.map (·.2)) row)) H'
theorem len_law_all_hold (K : PySem.W.Frag) : ∀ vs H Q E, sp_law_all_hold K vs H Q E → vs.length = 2 := by
  rintro vs H Q E ⟨a, b, as, row, rfl, _⟩; rfl
def sp_law_rows (K : PySem.W.Frag) : Sp := fun vs H Q _ => ∃ (D : Nat), vs = [.int (1 + (D : Nat))] ∧ D < 8 ∧ ∀ H' q bs, Same H H' → H' q = some (.lst (bs.map rf)) → CLs H' bs → bs.map (·.2) = waysOf [[]] (nums (1 + D)) → Q (.ref q) H'
theorem len_law_rows (K : PySem.W.Frag) : ∀ vs H Q E, sp_law_rows K vs H Q E → vs.length = 1 := by
  rintro vs H Q E ⟨D, rfl, _⟩; rfl
theorem pow_small {n : Nat} (h : n ≤ 9) : 2 ^ n ≤ 512 := Nat.pow_le_pow_right (by decide) h
section
variable {P : Program} {w : World} {K : PySem.W.Frag} {mg : Str → Option Value} {base : Heap}
theorem sc_law_clauses : FnScope ["pot", "many", "most", "rows", "lap", "its", "one"] ["pot", "many", "most"] (defScope s_law_clauses) := ⟨rfl, rfl, rfl, by decide +kernel, rfl, by decide +kernel, by decide +kernel⟩
theorem ok_law_clauses (T : Tx K mg) (C_law_take : CalF P w K mg base ("_law_take", none) 1 ["pot", "upto"] (sp_law_take K)) (C_law_some : CalF P w K mg base ("_law_some", none) 2 ["pot", "some", "many"] (sp_law_some K)) (C_law_of : CalF P w K mg base ("_law_of", none) 2 ["pot", "some"] (sp_law_of K)) : CalF P w K mg base ("_law_clauses", none) 3 ["pot", "many", "most"] (sp_law_clauses K) := by
  have mg_range : mg "range" = none := T.free 66
  have mg_tuple : mg "tuple" = none := T.free 73
  have mg_list : mg "list" = none := T.free 63
  have mg_sorted : mg "sorted" = none := T.free 69
  have mg_min : mg "min" = none := T.free 65
  have mg_int : mg "int" = none := T.free 60
  obtain ⟨fd_law_take, b_law_take, G_law_take, kp_law_take⟩ := C_law_take
  obtain ⟨fd_law_some, b_law_some, G_law_some, kp_law_some⟩ := C_law_some
  obtain ⟨fd_law_of, b_law_of, G_law_of, kp_law_of⟩ := C_law_of
  have mg_law_take : mg "_law_take" = some (.ref (He.ga K "_law_take")) := T.glo 42
  have mg_law_some : mg "_law_some" = some (.ref (He.ga K "_law_some")) := T.glo 44
  have mg_law_of : mg "_law_of" = some (.ref (He.ga K "_law_of")) := T.glo 43
  refine calF T (d := d_law_clauses) 69 rfl sc_law_clauses rfl rfl (fun _ _ _ _ _ _ us hl => match us, hl with | [_, _, _], _ => rfl) (len_law_clauses K) ?_
  intro cdv A outer s H vs Q E hr h
  have hu := hu_of hr
  obtain ⟨p, D, n, rfl, hD16, P1, k⟩ := h
  have K1 := Ke.refl p H
  refine ⟨_, (pss_cons (ps_set (i := 3) sc_law_clauses.nd rfl (Or.inl rfl) (pe_lst pa_nil))
      (pss_cons (ps_for PassesOwn.never rfl (pi_range1 (by rfl) mg_range (pa_cons (pe_call G_law_take (hr.mono (by decide)) (by rfl) mg_law_take kp_law_take b_law_take .nil pass0 (pa_cons (pv 0) (pa_cons (pe_op op_add (pv 2) pe_int) pa_nil))) pa_nil)) (pg_name (i := 4) sc_law_clauses.nd rfl (Or.inl rfl)) (pss_cons (ps_set (i := 5) sc_law_clauses.nd rfl (Or.inl rfl) (pe_call G_law_some (hr.mono (by decide)) (by rfl) mg_law_some kp_law_some b_law_some .nil pass0 (pa_cons (pv 0) (pa_cons (pe_listRg rfl (by rfl) mg_list (prg_2 (by rfl) mg_range pe_int (pe_op op_add (pv 1) pe_int))) (pa_cons (pe_op op_add pe_int (pe_call G_law_take (hr.mono (by decide)) (by rfl) mg_law_take kp_law_take b_law_take .nil pass0 (pa_cons (pv 0) (pa_cons (pe_callB (call_min2 rfl) (by rfl) mg_min bt_min (pa_cons (pv 1) (pa_cons pe_int pa_nil))) pa_nil)))) pa_nil)))))
      (pss_one (ps_expr (pe_bm PySem.F.plainAttrs_list PySem.F.slot_list_append PySem.F.type_list_append mt_append (pv 3) (pa_cons (pe_callTy call_tuple2 (by rfl) mg_tuple bt_tuple (pa_cons (pe_callB cr_sorted2 (by rfl) mg_sorted bt_sorted (pa_cons (pe_lc (own := [("one", 6)]) (g := gName 6) (tt := tYes) rfl sc_law_clauses.nd (pi_listK (K := K) rfl (pv 5)) (blkOk_by (by kernel_rfl)) (fun _ _ _ _ _ => (pg_name (i := 6) sc_law_clauses.nd rfl (Or.inl rfl))) (fun _ _ _ _ _ => pts_nil) (fun _ _ _ _ _ => (pe_op op_mulW (pe_callTy call_int1 (by rfl) mg_int bt_int (pa_cons (pv 6) pa_nil)) (pe_call G_law_of (hr.mono (by decide)) (by rfl) mg_law_of kp_law_of b_law_of .nil pass0 (pa_cons (pv 0) (pa_cons (pe_lst (pa_cons pe_int (pa_cons (pe_un un_neg pe_int) pa_nil))) pa_nil)))))) pa_nil)) pa_nil)) pa_nil))))))
      (pss_one (ps_ret (pe_callTy call_tuple2 (by rfl) mg_tuple bt_tuple (pa_cons (pv 3) pa_nil)))))), ?_⟩
  refine ⟨Nat.zero_le _, fun R0 hR0 => ?_⟩
  have g1 := Same.new (o := .lst []) hR0
  have hRp : R0 ≠ p := fun z => by
    obtain ⟨a, b, c, hp, _⟩ := P1
    rw [← z, hR0] at hp
    cases hp
  refine ⟨_, rfl, _, rfl, _, _, rfl, rfl, p, 13, n + 998, rfl, P1.same g1, by decide, by decide, fun H2 cn K2 P2 c0 c1 => ?_⟩
  obtain ⟨m, rfl⟩ : ∃ m : Nat, cn = m := ⟨cn.toNat, (Int.toNat_of_nonneg c0).symm⟩
  refine ⟨(m : Int), rfl, by omega, by omega, ?_⟩
  have wk := wkR (lo := 0) (n := m)
  refine forA ((List.range m).map fun (i : Nat) => (0 : Int) + (i : Int)) (fun σ l => σ.set 4 (some (.int l))) wk (fun σ => yName) (fun don σ H2 => ∃ as x y z, σ = [some (.ref p), some (.int (1 + (D : Nat))), some (.int 12), some (.ref R0), x, y, z] ∧ Ke p H H2 ∧ Pot H2 p (n + (998 - 10 * don.length)) ∧ H2 R0 = some (.lst (as.map rf)) ∧ CLs H2 as ∧ as.length = don.length ∧ ∀ x ∈ as, isCl (1 + (D : Nat)) x.2 = true ∧ x.2.length ≤ 3)
    ⟨[], none, none, none, rfl, K1.trans ((Ke.same g1).trans K2), by simpa using P2, K2 _ _ hRp upd_same, (fun _ h => nomatch h), rfl, (fun _ h => nomatch h)⟩ (fun _ _ _ _ => trivial) ?_ ?_
  · rintro don x r σ H3 H4 e ⟨as, x1, y1, z1, rfl, K3, P3, hR3, hc3, hal, hok⟩ s4
    have hdl : don.length < m := by
      have := congrArg List.length e
      rw [List.length_map, List.length_range, List.length_append, List.length_cons] at this
      omega
    have hPn : H3 p ≠ none := by
      obtain ⟨a, b, c, hp, _⟩ := P3
      rw [hp]
      exact fun z => nomatch z
    refine ⟨_, rfl, _, rfl, _, _, rfl, rfl, _, _, rfl, rfl, RgOk.of_le (by decide) (by omega) (by decide) (by omega), fun L0 hL0 => ?_⟩
    have hL3 : H3 L0 = none := s4.free hL0
    have hLp : L0 ≠ p := fun z => hPn (z ▸ hL3)
    have g5 := Same.new (o := .lst (rgV 1 (1 + (D : Int) + 1))) hL0
    have P4 : Pot (upd H4 L0 (.lst (rgV 1 (1 + (D : Int) + 1)))) p (n + (998 - 10 * don.length)) := (P3.same s4).same g5
    refine ⟨_, rfl, _, rfl, _, _, rfl, p, (if (3 : Int) < 1 + (D : Int) then 3 else 1 + (D : Int)), n + (998 - 10 * don.length) - 1, rfl, P4.less (by omega), (by split <;> omega), (by split <;> omega), fun H5 e5 K5 P5 e0 e1 => ?_⟩
    obtain ⟨E5, rfl⟩ : ∃ E5 : Nat, e5 = E5 := ⟨e5.toNat, (Int.toNat_of_nonneg e0).symm⟩
    have hE3 : E5 < 3 := by split at e1 <;> omega
    have hED : E5 < 1 + D := by split at e1 <;> omega
    have hxs : rgV 1 (1 + (D : Int) + 1) = ((List.range (D + 1)).map fun i => (1 : Int) + (i : Nat)).map V.int := by
      unfold rgV
      rw [show (1 + (D : Int) + 1 - 1).toNat = D + 1 by omega, List.map_map]
      rfl
    have hL5 : H5 L0 = some (.lst (((List.range (D + 1)).map fun i => (1 : Int) + (i : Nat)).map V.int)) := by
      rw [← hxs]
      exact K5 _ _ hLp upd_same
    refine ⟨_, _, rfl, rfl, p, L0, _, 1 + E5, n + (998 - 10 * don.length) - 5, (by rw [Int.natCast_add]; rfl), P5.less (by omega), hL5, by rw [List.length_map, List.length_map, List.length_range]; omega, by rw [List.length_map, List.length_map, List.length_range]; omega, fun H6 q ys K6 P6 hq0 hq ⟨rest, hpm⟩ hyl => ?_⟩
    obtain ⟨ms, rs, rfl, hms⟩ := perm_ints hpm
    rw [List.length_map] at hyl
    have hqp : q ≠ p := fun z => by
      obtain ⟨a, b, c, hp, _⟩ := P5
      rw [← z, hq0] at hp
      cases hp
    have hR5 : H5 R0 = some (.lst (as.map rf)) := K5 _ _ hRp (g5 _ _ (s4 _ _ hR3))
    have hR6 : H6 R0 = some (.lst (as.map rf)) := K6 _ _ hRp hR5
    have K36 : Ke p H3 H6 := (Ke.same (s4.trans g5)).trans (K5.trans K6)
    refine ⟨_, rfl, .inl ⟨rfl, _, SqL.of hR6⟩, _, rfl, q, rfl, ⟨_, SqL.of hq⟩, ?_⟩
    refine lcG ms V.int (wkL ms V.int) (fun l ys H => ∃ ds : List Int, Ke p H6 H ∧ Pot H p (n + (998 - 10 * don.length) - 5 - l.length) ∧ ys = ds.map V.int ∧ ds.map ab = l.map ab) (by omega) (by intro _; rfl) (fun D0 hD => ⟨[], Ke.new hD, P6.same (Same.new hD), rfl, rfl⟩) (fun l ys H ⟨ds, q1, _⟩ => SqL.of (q1 _ _ hqp hq)) ?_ ?_
    · rintro D0 l a r ys H7 eq hD0 ⟨ds, K7, P7, rfl, hds⟩ hD7 Qe qe
      have hDp : D0 ≠ p := fun z => by
        obtain ⟨a, b, c, hp, _⟩ := P6
        rw [← z, hD0] at hp
        cases hp
      have hlm : l.length < ms.length := by
        have := congrArg List.length eq
        rw [List.length_append, List.length_cons] at this
        omega
      refine ⟨_, rfl, .inl ⟨_, rfl, _, rfl, _, rfl, by show 2 ≤ sizeLine; decide, fun L1 hL1 => ?_⟩⟩
      have g7 := Same.new (o := .lst [.int 1, .int (-1)]) hL1
      have hL1p : L1 ≠ p := fun z => by
        obtain ⟨a, b, c, hp, _⟩ := P7
        rw [← z, hL1] at hp
        cases hp
      refine ⟨p, L1, [.int 1, .int (-1)], n + (998 - 10 * don.length) - 5 - (l.length + 1), rfl, (P7.same g7).less (by omega), upd_same, hL1p, (fun z => nomatch z), (by decide), fun H8 y K8 P8 hy => ?_⟩
      have am : a ∈ ms := by rw [eq]; exact List.mem_append_right _ List.mem_cons_self
      obtain ⟨i, hi0, hi1⟩ := List.mem_map.mp (hms.mem_iff.mp (List.mem_append_left _ am))
      have hi2 := List.mem_range.mp hi0
      have fin : ∀ s : Int, s = 1 ∨ s = -1 → ∃ (i j : Int), V.int a = V.int i ∧ V.int s = V.int j ∧ CMulW i j ∧ Qe (V.int (i * j)) H8 := by
        intro s hs
        refine ⟨_, _, rfl, rfl, wide_mul (a := 20) (b := 20) (by show _ < 1048576; omega) (by show _ < 1048576; omega) (by decide) (by decide) (by decide), ?_⟩
        have hD8 : H8 D0 = some (.lst (ds.map V.int)) := K8 _ _ hDp (g7 _ _ hD7)
        refine qe _ H8 hD8 ⟨ds ++ [a * s], ?_, ?_, by rw [List.map_append]; rfl, ?_⟩
        · exact fun y o ny ey => by rw [upd_ne (ne_of_none ey hD0)]; exact (K7.trans ((Ke.same g7).trans K8)) y o ny ey
        · rw [List.length_append]
          obtain ⟨a2, b2, c2, q1, q2⟩ := P8
          exact ⟨a2, b2, c2, by rw [upd_ne hDp.symm]; exact q1, q2⟩
        · rw [List.map_append, List.map_append, hds]
          have z : ab (a * s) = ab a := by rcases hs with rfl | rfl <;> unfold ab <;> (repeat' split) <;> omega
          rw [List.map_cons, List.map_cons, z]
          all_goals rfl
      rcases List.mem_cons.mp hy with rfl | hy
      · exact fin 1 (.inl rfl)
      · rcases List.mem_cons.mp hy with rfl | hy
        · exact fin (-1) (.inr rfl)
        · exact nomatch hy
    · rintro D0 ys H7 hD0 ⟨ds, K7, P7, rfl, hds⟩ hD7
      refine ⟨D0, ds, rfl, hD7, fun q8 hq8 => ⟨q8, _, rfl, upd_same, fun q9 hq9 => ?_⟩⟩
      have hR7 := K7 _ _ hRp hR6
      have g8 := Same.new (o := .lst ((srt ds).map V.int)) hq8
      have g9 := Same.new (o := .tup ((srt ds).map V.int)) hq9
      have g89 := g8.trans g9
      refine ⟨R0, _, _, rfl, rfl, g89 _ _ hR7, sz_lt (by rw [List.length_map]; omega), ?_⟩
      have hcp : ∀ x ∈ as, x.1 ≠ p := fun x hx z => by
        obtain ⟨a, b, c, hp, _⟩ := P3
        have hz := hc3 x hx
        rw [z, hp] at hz
        exact nomatch hz
      have hHR : H R0 = none := K1.free hRp hR0
      have hRq9 : q9 ≠ R0 := (ne_of_none (g8 _ _ hR7) hq9).symm
      have hc7 : CLs H7 as := fun x hx => K7 _ _ (hcp x hx) (K36 _ _ (hcp x hx) (hc3 x hx))
      refine ⟨as ++ [(q9, srt ds)], _, _, _, rfl, ?_, ?_, ?_, ?_, ?_, ?_⟩
      · exact fun y o ny ey => by
          rw [upd_ne (ne_of_none ey hHR)]
          exact ((K3.trans (K36.trans K7)).trans (Ke.same g89)) y o ny ey
      · rw [List.length_append]
        obtain ⟨a2, b2, c2, q1, q2⟩ := (P7.same g89).less (m := n + (998 - 10 * (don.length + [x].length))) (by show n + (998 - 10 * (don.length + 1)) ≤ _; omega)
        exact ⟨a2, b2, c2, by rw [upd_ne hRp.symm]; exact q1, q2⟩
      · rw [upd_same, List.map_append]; rfl
      · intro y hy
        rcases List.mem_append.mp hy with hy | hy
        · have hz := g89 _ _ (hc7 y hy)
          rw [upd_ne (fun z => by rw [z, g89 _ _ hR7] at hz; exact nomatch hz)]
          exact hz
        · rw [List.mem_singleton.mp hy, upd_ne hRq9]
          exact upd_same
      · rw [List.length_append, List.length_append, hal]; rfl
      · intro y hy
        rcases List.mem_append.mp hy with hy | hy
        · exact hok y hy
        · rw [List.mem_singleton.mp hy]
          refine ⟨draw_cl hms hds, ?_⟩
          show (srt ds).length ≤ 3
          rw [(srt_perm ds).length_eq]
          have := congrArg List.length hds
          rw [List.length_map, List.length_map] at this
          omega
  · rintro σ H3 ⟨as, x1, y1, z1, rfl, K3, P3, hR3, hc3, hal, hok⟩
    rw [List.length_map, List.length_range] at P3 hal
    refine ⟨_, rfl, R0, _, rfl, hR3, fun T0 hT0 => ?_⟩
    have g4 := Same.new (o := .tup (as.map rf)) hT0
    exact k _ T0 as (K3.trans (Ke.same g4)) ((P3.same g4).less (by omega)) upd_same (hc3.mono g4) (by omega) hok
theorem sc_law_with : FnScope ["clauses", "literal", "clause"] ["clauses", "literal"] (defScope s_law_with) := ⟨rfl, rfl, rfl, by decide +kernel, rfl, by decide +kernel, by decide +kernel⟩
theorem ok_law_with (T : Tx K mg)  : CalF P w K mg base ("_law_with", none) 1 ["clauses", "literal"] (sp_law_with K) := by
  have mg_tuple : mg "tuple" = none := T.free 73
  have mg_sorted : mg "sorted" = none := T.free 69
  refine calF T (d := d_law_with) 70 rfl sc_law_with rfl rfl (fun _ _ _ _ _ _ us hl => match us, hl with | [_, _], _ => rfl) (len_law_with K) ?_
  intro cdv A outer s H vs Q E hr h
  have hu := hu_of hr
  obtain ⟨a, l, as, rfl, ha, has, hl, hx, k⟩ := h
  refine ⟨_, (pss_one (ps_ret (pe_callTy call_tuple2 (by rfl) mg_tuple bt_tuple (pa_cons (pe_lc (own := [("clause", 2)]) (g := gName 2) (tt := tYes) rfl sc_law_with.nd (pi_tupK (K := K) rfl (pv 0)) (blkOk_by (by kernel_rfl)) (fun _ _ _ _ _ => (pg_name (i := 2) sc_law_with.nd rfl (Or.inl rfl))) (fun _ _ _ _ _ => pts_nil) (fun _ _ _ _ _ => (pe_callTy call_tuple2 (by rfl) mg_tuple bt_tuple (pa_cons (pe_callB cr_sortedTp (by rfl) mg_sorted bt_sorted (pa_cons (pe_op op_cat2 (pv 2) (pe_tup (pa_cons (pv 1) pa_nil))) pa_nil)) pa_nil)))) pa_nil)))), ?_⟩
  refine ⟨_, rfl, a, rfl, ⟨_, SqT.of ha⟩, ?_⟩
  refine lcT0 as _ (wkT as rf) yName (fun x => (wl l x.2).map V.int) (by omega) (by intro _; rfl) (fun H h => SqT.of (h _ _ ha)) ?_ ?_
  · intro x hxm H1 s1 Qe q
    refine ⟨_, rfl, _, rfl, by show 1 ≤ sizeLine; decide, fun t ht => ?_⟩
    have gt := Same.new (o := .tup [.int l]) ht
    refine ⟨x.1, t, _, _, rfl, rfl, gt _ _ (s1 _ _ (has x hxm)), upd_same, by rw [List.length_map]; have := hx x hxm; show _ + 1 ≤ _; omega, fun c H2 s2 hc => ?_⟩
    refine ⟨c, x.2 ++ [l], rfl, by rw [List.map_append]; exact hc, fun q1 hq1 => ⟨q1, _, rfl, upd_same, fun q2 hq2 => ?_⟩⟩
    exact q q2 _ (gt.trans (s2.trans ((Same.new hq1).trans (Same.new hq2)))) upd_same
  intro D1 H1 ys _ s1 h1 hp
  obtain ⟨bs, rfl, eb, hbs⟩ := paired_cls (f := fun x : Cl => wl l x.2) hp
  refine ⟨D1, _, rfl, h1, fun q hq => ?_⟩
  have g2 := Same.new (o := .tup (bs.map rf)) hq
  exact k _ q bs (s1.trans g2) upd_same (hbs.mono g2) eb
theorem sc_law_all_hold : FnScope ["clauses", "row", "one", "clause"] ["clauses", "row"] (defScope s_law_all_hold) := ⟨rfl, rfl, rfl, by decide +kernel, rfl, by decide +kernel, by decide +kernel⟩
theorem ok_law_all_hold (T : Tx K mg)  : CalF P w K mg base ("_law_all_hold", none) 1 ["clauses", "row"] (sp_law_all_hold K) := by
  have mg_all : mg "all" = none := T.free 55
  have mg_any : mg "any" = none := T.free 56
  refine calF T (d := d_law_all_hold) 68 rfl sc_law_all_hold rfl rfl (fun _ _ _ _ _ _ us hl => match us, hl with | [_, _], _ => rfl) (len_law_all_hold K) ?_
  intro cdv A outer s H vs Q E hr h
  have hu := hu_of hr
  obtain ⟨a, b, as, row, rfl, ha, has, hl, hx, hb, k⟩ := h
  refine ⟨_, (pss_one (ps_ret (pe_callB (cr_all2 rfl) (by rfl) mg_all bt_all (pa_cons (pe_lc (own := [("clause", 3)]) (g := gName 3) (tt := tYes) rfl sc_law_all_hold.nd (pi_tupK (K := K) rfl (pv 0)) (blkOk_by (by kernel_rfl)) (fun _ _ _ _ _ => (pg_name (i := 3) sc_law_all_hold.nd rfl (Or.inl rfl))) (fun _ _ _ _ _ => pts_nil) (fun _ _ _ _ _ => (pe_callB (cr_any2 rfl) (by rfl) mg_any bt_any (pa_cons (pe_lc (own := [("one", 2)]) (g := gName 2) (tt := tYes) rfl sc_law_all_hold.nd (pi_tupK (K := K) rfl (pv 3)) (blkOk_by (by kernel_rfl)) (fun _ _ _ _ _ => (pg_name (i := 2) sc_law_all_hold.nd rfl (Or.inl rfl))) (fun _ _ _ _ _ => pts_nil) (fun _ _ _ _ _ => (pe_cmpR op_in2 (pv 2) (pv 1) (by rfl)))) pa_nil)))) pa_nil)))), ?_⟩
  refine ⟨_, rfl, a, rfl, ⟨_, SqT.of ha⟩, ?_⟩
  refine lcV0 as _ (wkT as rf) yName (fun x => .bl (x.2.any fun l => decide (l ∈ row))) (by omega) (by intro _; rfl) (fun H h => SqT.of (h _ _ ha)) ?_ ?_
  · intro x hxm H1 s1 Qe q
    have hx1 := s1 _ _ (has x hxm)
    refine ⟨_, rfl, x.1, rfl, ⟨_, SqT.of hx1⟩, ?_⟩
    refine lcV0 x.2 _ (wkT x.2 V.int) yName (fun l => .bl (decide (l ∈ row))) (by have := hx x hxm; omega) (by intro _; rfl) (fun H h => SqT.of (h _ _ hx1)) ?_ ?_
    · intro l hl2 H2 s2 Qe2 q2
      exact ⟨_, rfl, _, rfl, l, b, row, rfl, rfl, .inr ((s1.trans s2) _ _ hb), q2 _ (Same.refl _)⟩
    · intro D2 H2 _ s2 h2
      exact ⟨D2, Int, x.2, fun l => decide (l ∈ row), rfl, h2, q _ s2⟩
  intro D1 H1 _ s1 h1
  refine ⟨D1, Cl, as, fun x => x.2.any fun l => decide (l ∈ row), rfl, h1, ?_⟩
  have e : (as.all fun x => x.2.any fun l => decide (l ∈ row)) = doHold (as.map (·.2)) row := by
    unfold doHold
    rw [List.all_map]; rfl
  rw [e]
  exact k _ s1
theorem sc_law_rows : FnScope ["many", "found", "number", "longer", "row"] ["many"] (defScope s_law_rows) := ⟨rfl, rfl, rfl, by decide +kernel, rfl, by decide +kernel, by decide +kernel⟩
theorem ok_law_rows (T : Tx K mg)  : CalF P w K mg base ("_law_rows", none) 1 ["many"] (sp_law_rows K) := by
  have mg_range : mg "range" = none := T.free 66
  refine calF T (d := d_law_rows) 67 rfl sc_law_rows rfl rfl (fun _ _ _ _ _ _ us hl => match us, hl with | [_], _ => rfl) (len_law_rows K) ?_
  intro cdv A outer s H vs Q E hr h
  have hu := hu_of hr
  obtain ⟨D, rfl, hD, k⟩ := h
  refine ⟨_, (pss_cons (ps_set (i := 1) sc_law_rows.nd rfl (Or.inl rfl) (pe_lst (pa_cons (pe_tup pa_nil) pa_nil)))
      (pss_cons (ps_for PassesOwn.never rfl (pi_range2 (by rfl) mg_range (pa_cons pe_int (pa_cons (pe_op op_add (pv 0) pe_int) pa_nil))) (pg_name (i := 2) sc_law_rows.nd rfl (Or.inr rfl)) (pss_cons (ps_setLc (i := 3) (own := [("row", 4)]) (g := gName 4) (tt := tYes) rfl sc_law_rows.nd rfl rfl (sw_true rfl rfl rfl (by decide +kernel)) (pi_listK (K := K) rfl (pv 1)) (blkOk_by (by kernel_rfl)) (fun _ _ _ _ _ => (pg_name (i := 4) sc_law_rows.nd rfl (Or.inl rfl))) (fun _ _ _ _ _ => pts_nil) (fun _ _ _ _ _ => (pe_op op_cat2 (pv 4) (pe_tup (pa_cons (pv 2) pa_nil)))))
      (pss_one (ps_set (i := 1) sc_law_rows.nd rfl (Or.inl rfl) (pe_op op_cat (pv 3) (pe_lc (own := [("row", 4)]) (g := gName 4) (tt := tYes) rfl sc_law_rows.nd (pi_listK (K := K) rfl (pv 1)) (blkOk_by (by kernel_rfl)) (fun _ _ _ _ _ => (pg_name (i := 4) sc_law_rows.nd rfl (Or.inl rfl))) (fun _ _ _ _ _ => pts_nil) (fun _ _ _ _ _ => (pe_op op_cat2 (pv 4) (pe_tup (pa_cons (pe_op op_sub pe_int (pv 2)) pa_nil))))))))))
      (pss_one (ps_ret (pv 1))))), ?_⟩
  refine ⟨Nat.zero_le _, fun t0 ht0 => ⟨by show 1 ≤ sizeLine; decide, fun F0 hF0 => ?_⟩⟩
  have g1 := Same.new (o := .tup []) ht0
  have g2 := Same.new (o := .lst [V.ref t0]) hF0
  have g12 := g1.trans g2
  refine ⟨_, rfl, _, _, rfl, rfl, _, _, rfl, ⟨by decide, by decide, by omega, by omega⟩, ?_⟩
  have enum : ((List.range (1 + (D : Int) + 1 - 1).toNat).map fun (i : Nat) => (1 : Int) + (i : Int)) = nums (1 + D) := by
    unfold nums
    rw [show (1 + (D : Int) + 1 - 1).toNat = 1 + D by omega]
    exact List.map_congr_left fun i _ => Int.add_comm _ _
  have nl := nums_len (1 + D)
  refine forA ((List.range (1 + (D : Int) + 1 - 1).toNat).map fun (i : Nat) => (1 : Int) + (i : Int)) (fun σ l => σ.set 2 (some (.int l))) wkR (fun σ => yName) (fun don σ H2 => ∃ F fs y z v, σ = [some (.int (1 + (D : Nat))), some (.ref F), y, z, v] ∧ Same H H2 ∧ H2 F = some (.lst (fs.map rf)) ∧ CLs H2 fs ∧ fs.map (·.2) = waysOf [[]] don ∧ fs.length = 2 ^ don.length ∧ ∀ x ∈ fs, x.2.length = don.length)
    ⟨F0, [(t0, [])], none, none, none, rfl, g12, upd_same, ?_, rfl, rfl, ?_⟩ (fun _ _ _ _ => trivial) ?_ ?_
  · intro x hx
    rw [List.mem_singleton.mp hx]
    exact g2 _ _ upd_same
  · intro x hx
    rw [List.mem_singleton.mp hx]
    all_goals rfl
  · rintro don n r σ H3 H4 e ⟨F, fs, y, z, v, rfl, s3, hF, hfs, efs, hfl, hfx⟩ s4
    rw [enum] at e
    have hdl : don.length < 9 := by
      have := congrArg List.length e
      rw [List.length_append, List.length_cons, nl] at this
      omega
    have hp8 := pow_small (Nat.le_of_lt hdl)
    have hF4 := s4 _ _ hF
    refine ⟨_, rfl, F, rfl, ⟨_, SqL.of hF4⟩, ?_⟩
    refine lcT0 fs _ (wkL fs rf) yName (fun x => (x.2 ++ [n]).map V.int) (by omega) (by intro _; rfl) (fun H h => SqL.of (h _ _ hF4)) ?_ ?_
    · intro x hx H5 s5 Qe q
      refine ⟨_, rfl, _, rfl, by show 1 ≤ sizeLine; decide, fun t ht => ⟨x.1, t, _, _, rfl, rfl, Same.new ht _ _ (s5 _ _ (s4 _ _ (hfs x hx))), upd_same, by have := hfx x hx; rw [List.length_map]; show _ + 1 ≤ _; omega, fun c H6 s6 hc => q c H6 ((Same.new ht).trans s6) (by rw [List.map_append]; exact hc)⟩⟩
    · intro D1 H5 ys _ s5 h5 hp
      obtain ⟨b1, rfl, eb1, hb1⟩ := paired_cls (f := fun x : Cl => x.2 ++ [n]) hp
      refine ⟨_, rfl, _, rfl, F, rfl, ⟨_, SqL.of (s5 _ _ hF4)⟩, ?_⟩
      refine lcT0 fs _ (wkL fs rf) yName (fun x => (x.2 ++ [0 - n]).map V.int) (by omega) (by intro _; rfl) (fun H h => SqL.of (h _ _ (s5 _ _ hF4))) ?_ ?_
      · intro x hx H6 s6 Qe q
        refine ⟨_, rfl, _, rfl, _, _, rfl, rfl, by show 1 ≤ sizeLine; decide, fun t ht => ⟨x.1, t, _, _, rfl, rfl, Same.new ht _ _ (s6 _ _ (s5 _ _ (s4 _ _ (hfs x hx)))), upd_same, by have := hfx x hx; rw [List.length_map]; show _ + 1 ≤ _; omega, fun c H7 s7 hc => q c H7 ((Same.new ht).trans s7) (by rw [List.map_append]; exact hc)⟩⟩
      · intro D2 H6 ys _ s6 h6 hp
        obtain ⟨b2, rfl, eb2, hb2⟩ := paired_cls (f := fun x : Cl => x.2 ++ [0 - n]) hp
        have l1 : b1.length = fs.length := by have := congrArg List.length eb1; simpa using this
        have l2 : b2.length = fs.length := by have := congrArg List.length eb2; simpa using this
        have z : (b1.map rf).length + (b2.map rf).length < 100000 := by rw [List.length_map, List.length_map]; omega
        refine ⟨D1, D2, _, _, rfl, rfl, s6 _ _ h5, h6, Nat.le_of_lt (sz_lt z), fun F1 hF1 => ?_⟩
        have g7 := Same.new (o := .lst (b1.map rf ++ b2.map rf)) hF1
        refine ⟨F1, b1 ++ b2, _, _, _, rfl, s3.trans (s4.trans (s5.trans (s6.trans g7))), by rw [List.map_append]; exact upd_same, ?_, ?_, ?_, ?_⟩
        · intro x hx
          rcases List.mem_append.mp hx with hx | hx
          · exact (s6.trans g7) _ _ (hb1 x hx)
          · exact g7 _ _ (hb2 x hx)
        · rw [List.map_append, eb1, eb2, waysOf_app, ← efs]
          show _ = (fs.map (·.2)).map (· ++ [n]) ++ (fs.map (·.2)).map (· ++ [0 - n])
          rw [List.map_map, List.map_map]
          rfl
        · rw [List.length_append, List.length_append, l1, l2, hfl]
          show _ = 2 ^ (don.length + 1)
          rw [Nat.pow_succ]
          omega
        · intro x hx
          have hz : x.2 ∈ (b1 ++ b2).map (·.2) := List.mem_map_of_mem hx
          rw [List.map_append, eb1, eb2] at hz
          rcases List.mem_append.mp hz with hz | hz
          · obtain ⟨y, hy, ey⟩ := List.mem_map.mp hz
            rw [← ey, List.length_append, List.length_append, hfx y hy]; all_goals rfl
          · obtain ⟨y, hy, ey⟩ := List.mem_map.mp hz
            rw [← ey, List.length_append, List.length_append, hfx y hy]; all_goals rfl
  · rintro σ H3 ⟨F, fs, y, z, v, rfl, s3, hF, hfs, efs, hfl, hfx⟩
    rw [enum] at efs
    exact ⟨_, rfl, k H3 F fs s3 hF hfs efs⟩
end
end Nt
set_option maxRecDepth 100000
set_option maxHeartbeats 1000000
/-! NtJ1: one bundle or the other: plain facts. -/
namespace Nt
open PySem PySem.Spec PyProof.Rows L2
theorem mem_wl {l y : Int} {c : List Int} : y ∈ wl l c ↔ y ∈ c ∨ y = l := by
  unfold wl
  rw [(srt_perm _).mem_iff, List.mem_append, List.mem_singleton]
/-- B: X, where t is so, else Y -/
structure Two (k : Nat) (t : Int) (X Y B : Cls') : Prop where
  at_ : ab t = (k : Int) + 1
  x : ∀ c ∈ X, wl (0 - t) c ∈ B
  y : ∀ c ∈ Y, wl t c ∈ B
  all : ∀ d ∈ B, (∃ c ∈ X, d = wl (0 - t) c) ∨ ∃ c ∈ Y, d = wl t c
  inx : ∀ c ∈ X, ∀ l ∈ c, InR k l
  iny : ∀ c ∈ Y, ∀ l ∈ c, InR k l
section
variable {k : Nat} {t : Int} {X Y B : Cls'}
theorem Two.symm (W : Two k t X Y B) : Two k (0 - t) Y X B := ⟨by rw [Int.zero_sub, ab_neg]; exact W.at_, by rw [sub_sub]; exact W.y, W.x, fun d hd => by rw [sub_sub]; exact (W.all d hd).symm, W.iny, W.inx⟩
theorem Two.t0 (W : Two k t X Y B) : t ≠ 0 := fun z => by have := W.at_; rw [z] at this; unfold ab at this; simp at this; omega
theorem far (W : Two k t X Y B) {l : Int} (h : InR k l) : l ≠ t ∧ l ≠ 0 - t := by
  have h1 := W.at_
  have h2 := ab_in h
  constructor
  · intro z; rw [z] at h2; omega
  · intro z; rw [z, Int.zero_sub, ab_neg] at h2; omega
theorem lit_sub {a : As} {l : Int} (h : l ≠ 0) : lit a (0 - l) = !lit a l := by rw [Int.zero_sub]; exact lit_neg h
theorem Two.hold_ (W : Two k t X Y B) {a : As} (h : lit a t = true) : hold B a = hold X a := by
  have hn : lit a (0 - t) = false := by rw [lit_sub W.t0, h]; rfl
  rw [Bool.eq_iff_iff, hold_iff, hold_iff]
  constructor
  · intro q c hc
    obtain ⟨l, h1, h2⟩ := q _ (W.x c hc)
    rcases mem_wl.mp h1 with h1 | h1
    · exact ⟨l, h1, h2⟩
    · rw [h1, hn] at h2; cases h2
  · intro q d hd
    rcases W.all d hd with ⟨c, hc, rfl⟩ | ⟨c, hc, rfl⟩
    · obtain ⟨l, h1, h2⟩ := q c hc
      exact ⟨l, mem_wl.mpr (.inl h1), h2⟩
    · exact ⟨t, mem_wl.mpr (.inr rfl), h⟩
theorem nums_succ (k : Nat) : nums (k + 1) = nums k ++ [(k : Int) + 1] := by
  unfold nums
  rw [List.range_succ, List.map_append]; rfl
theorem Two.given (W : Two k t X Y B) : cnt ((k : Int) + 1) (B ++ un [t]) = cnt k X := by
  unfold cnt
  rw [show ((k : Int) + 1).toNat = k + 1 by omega, show ((k : Nat) : Int).toNat = k by omega, nums_succ]
  rw [sm_perm (ms := ((k : Int) + 1) :: nums k) List.perm_append_comm]
  have eP : ∀ a, hold (B ++ un [t]) a = (lit a t && hold X a) := fun a => by
    rw [hold_with]
    cases q : lit a t with
    | true => rw [W.hold_ q]; simp [q]
    | false => simp [q]
  have hn : ((k : Int) + 1) ∉ nums k := fun z => by have := mem_nums.mp z; omega
  have lp : ∀ (a b : As), a ((k : Int) + 1) = b ((k : Int) + 1) → lit a t = lit b t := fun a b e => lit_ab (by rw [W.at_]; exact e)
  have half : ∀ v : Bool, sm (nums k) (putA a0 ((k : Int) + 1) v) (hold (B ++ un [t])) = if lit (putA a0 ((k : Int) + 1) v) t = true then sm (nums k) a0 (hold X) else 0 := by
    intro v
    rw [sm_congr eP, sm_const (P := fun a => lit a t) (Q := hold X) fun b hb => lp _ _ (hb _ hn)]
    split
    · refine sm_base (X := fun x => x = (k : Int) + 1) (fun a b h => hold_dep fun c hc l hl => h _ fun z => ?_) _ fun x hx => by unfold putA; rw [if_neg hx]
      have := ab_in (W.inx c hc l hl)
      omega
    · rfl
  show sm (nums k) (putA a0 ((k : Int) + 1) true) _ + sm (nums k) (putA a0 ((k : Int) + 1) false) _ = _
  rw [half, half]
  have e1 : ∀ v, putA a0 ((k : Int) + 1) v ((k : Int) + 1) = v := fun v => by unfold putA; rw [if_pos rfl]
  have e2 : ∀ v, lit (putA a0 ((k : Int) + 1) v) t = if 0 < t then v else !v := fun v => by
    have h1 := W.at_
    unfold lit
    split
    · rw [ab_pos (by omega)] at h1
      rw [h1, e1]
    · have : -t = (k : Int) + 1 := by rw [← ab_neg, ab_pos (by omega)] at h1; exact h1
      rw [this, e1]
  rw [e2, e2]
  by_cases q : 0 < t
  · rw [if_pos q, if_pos q]; simp
  · rw [if_neg q, if_neg q]; simp
theorem Two.count (W : Two k t X Y B) : cnt ((k : Int) + 1) B = cnt k X + cnt k Y := by
  have h := cnt_two (many := (k : Int) + 1) (cs := B) [] W.t0
  rw [show un [] = ([] : Cls') from rfl, List.append_nil] at h
  rw [h]
  have h1 := W.given
  have h2 := W.symm.given
  rw [← h1, ← h2]; rfl
/-! ### units -/
theorem Two.der (W : Two k t X Y B) {gs : List Int} (hg : ∀ g ∈ gs, InR k g) (nc : ¬ Clashes X gs) {l : Int} (d : Der B (wl t gs) l) : Der X gs l ∨ l = t := by
  have inr : ∀ {l : Int}, Der X gs l → InR k l := fun d => d.inr W.inx hg
  induction d with
  | given h => exact (mem_wl.mp h).imp .given id
  | @unit x l hc m o ih =>
    rcases W.all x hc with ⟨c, hx, rfl⟩ | ⟨c, hy, rfl⟩
    · have hy : ∀ y ∈ c, y ≠ l → Der X gs (-y) := fun y hy ne => (ih y (mem_wl.mpr (.inl hy)) ne).resolve_right fun z => (far W (W.inx c hx y hy)).2 (by omega)
      rcases mem_wl.mp m with m | m
      · exact .inl (.unit hx m hy)
      · refine absurd (.inl ⟨c, hx, fun y hy' => hy y hy' fun z => ?_⟩) nc
        exact (far W (W.inx c hx y hy')).2 (z.trans m)
    · by_cases e : t = l
      · exact .inr e.symm
      · rcases ih t (mem_wl.mpr (.inr rfl)) e with h | h
        · exact absurd (by omega) (far W (inr h)).2
        · exact absurd (by omega) W.t0
theorem Two.der' (W : Two k t X Y B) {gs : List Int} {l : Int} (d : Der X gs l) : Der B (wl t gs) l := by
  induction d with
  | given h => exact .given (mem_wl.mpr (.inl h))
  | unit hc m o ih =>
    refine .unit (W.x _ hc) (mem_wl.mpr (.inl m)) fun y hy ne => ?_
    rcases mem_wl.mp hy with hy | hy
    · exact ih y hy ne
    · rw [hy, show -(0 - t) = t by omega]
      exact .given (mem_wl.mpr (.inr rfl))
theorem Two.clash (W : Two k t X Y B) {gs : List Int} (hg : ∀ g ∈ gs, InR k g) : Clashes B (wl t gs) ↔ Clashes X gs := by
  have inr : ∀ {l : Int}, Der X gs l → InR k l := fun d => d.inr W.inx hg
  constructor
  · intro C
    by_cases nc : Clashes X gs
    · exact nc
    exfalso
    have nt : ¬ Der B (wl t gs) (-t) := fun d => by
      rcases W.der hg nc d with h | h
      · exact (far W (inr h)).2 (by omega)
      · exact W.t0 (by omega)
    rcases C with ⟨x, hc, hx⟩ | ⟨g, hgm, hx⟩
    · rcases W.all x hc with ⟨c, hX, rfl⟩ | ⟨c, hY, rfl⟩
      · refine nc (.inl ⟨c, hX, fun y hy => ?_⟩)
        exact (W.der hg nc (hx y (mem_wl.mpr (.inl hy)))).resolve_right fun z => (far W (W.inx c hX y hy)).2 (by omega)
      · exact nt (hx t (mem_wl.mpr (.inr rfl)))
    · rcases mem_wl.mp hgm with h | h
      · exact nc (.inr ⟨g, h, (W.der hg nc hx).resolve_right fun z => (far W (hg g h)).2 (by omega)⟩)
      · rw [h] at hx; exact nt hx
  · rintro (⟨c, hc, hx⟩ | ⟨g, hgm, hx⟩)
    · refine .inl ⟨_, W.x c hc, fun y hy => ?_⟩
      rcases mem_wl.mp hy with hy | hy
      · exact W.der' (hx y hy)
      · rw [hy, show -(0 - t) = t by omega]
        exact .given (mem_wl.mpr (.inr rfl))
    · exact .inr ⟨g, mem_wl.mpr (.inl hgm), W.der' hx⟩
theorem wl_pw {l : Int} {c : List Int} (h : c.Nodup) (n : l ∉ c) : (wl l c).Pairwise (· < ·) := by
  unfold wl
  refine srt_lt (List.nodup_append.mpr ⟨h, List.pairwise_singleton _ _, fun x hx y hy e => ?_⟩)
  rw [List.mem_singleton.mp hy] at e
  exact n (e ▸ hx)
theorem Two.told (W : Two k t X Y B) {gs xs1 xs2 : List Int} {st1 st2 : Str} (hg : ∀ g ∈ gs, InR k g) (U1 : UT X gs st1 xs1) (U2 : UT B (wl t gs) st2 xs2) : (st1 = "sure" ∧ st2 = "sure" ∧ xs2 = wl t xs1) ∨ (st1 = "clash" ∧ st2 = "clash") := by
  obtain ⟨S1, ⟨R1, rfl, rfl⟩ | ⟨c1, R1, rfl, rfl⟩⟩ := U1
  · obtain ⟨S2, ⟨R2, rfl, rfl⟩ | ⟨c2, R2, rfl, rfl⟩⟩ := U2
    · refine .inl ⟨rfl, rfl, ?_⟩
      have nt : t ∉ srt S1 := fun z => by
        have := R1.der t ((srt_perm S1).mem_iff.mp z)
        exact (far W (this.inr W.inx hg)).1 rfl
      refine pw_unique (srt_lt R2.nd) (wl_pw ((srt_perm S1).nodup_iff.mpr R1.nd) nt) fun l => ?_
      rw [(srt_perm S2).mem_iff, R2.mem, mem_wl, (srt_perm S1).mem_iff, R1.mem]
      constructor
      · exact fun d => W.der hg R1.no d
      · rintro (d | rfl)
        · exact W.der' d
        · exact .given (mem_wl.mpr (.inr rfl))
    · exact absurd ((W.clash hg).mp R2.clashes) R1.no
  · obtain ⟨S2, ⟨R2, rfl, rfl⟩ | ⟨c2, R2, rfl, rfl⟩⟩ := U2
    · exact absurd ((W.clash hg).mpr R1.clashes) R2.no
    · exact .inr ⟨rfl, rfl⟩
end
/-! ### rows -/
def rowOf (k : Nat) (a : As) : List Int := (nums k).map fun x => if a x then x else 0 - x
theorem rowOf_ab (k : Nat) (a : As) : (rowOf k a).map ab = nums k := by
  unfold rowOf
  rw [List.map_map]
  refine (List.map_congr_left (g := id) fun x hx => ?_).trans (List.map_id _)
  have := mem_nums.mp hx
  show ab (if a x then x else 0 - x) = x
  split
  · exact ab_pos (by omega)
  · rw [Int.zero_sub, ab_neg]; exact ab_pos (by omega)
theorem isVal_of {k : Nat} {w : List Int} (h : w.map ab = nums k) : isVal k w = true := by
  have hl : w.length = k := by have := congrArg List.length h; rwa [List.length_map, nums_len] at this
  unfold isVal
  rw [Bool.and_eq_true]
  refine ⟨decide_eq_true (by rw [hl]), List.all_eq_true.mpr fun p hp => decide_eq_true ?_⟩
  obtain ⟨x, i⟩ := p
  have hg : w[i]? = some x := by simpa using List.mem_zipIdx_iff_getElem?.mp hp
  have h1 : (w.map ab)[i]? = some (ab x) := by rw [List.getElem?_map, hg]; rfl
  rw [h] at h1
  unfold nums at h1
  rw [List.getElem?_map] at h1
  obtain ⟨j, h2, h3⟩ := Option.map_eq_some_iff.mp h1
  have h4 : j = i := by
    obtain ⟨h5, h6⟩ := List.getElem?_eq_some_iff.mp h2
    rw [List.getElem_range] at h6
    exact h6.symm
  subst h4
  show ab x = (j : Int) + 1
  exact h3.symm
theorem row_mem {k : Nat} {a : As} {l : Int} (h : InR k l) : l ∈ rowOf k a ↔ lit a l = true := by
  unfold rowOf lit InR at *
  rw [List.mem_map]
  constructor
  · rintro ⟨x, hx, e⟩
    have := mem_nums.mp hx
    by_cases q : a x = true
    · rw [if_pos q] at e
      rw [if_pos (by omega), ← e]; exact q
    · rw [if_neg q] at e
      rw [if_neg (by omega), show -l = x by omega]
      simpa using q
  · intro h2
    by_cases q : 0 < l
    · rw [if_pos q] at h2
      exact ⟨l, mem_nums.mpr (by omega), by rw [if_pos h2]⟩
    · rw [if_neg q] at h2
      have : a (-l) = false := by simpa using h2
      exact ⟨-l, mem_nums.mpr (by omega), by rw [this]; simp⟩
theorem row_in {k : Nat} {a : As} {l : Int} (h : l ∈ rowOf k a) : InR k l := isVal_nz (isVal_of (rowOf_ab k a)) h
theorem row_hold {k : Nat} {a : As} {cs : Cls'} (h : ∀ c ∈ cs, ∀ l ∈ c, InR k l) : doHold cs (rowOf k a) = hold cs a := by
  rw [Bool.eq_iff_iff, hold_iff]
  unfold doHold
  rw [List.all_eq_true]
  constructor
  · intro q c hc
    obtain ⟨l, h1, h2⟩ := List.any_eq_true.mp (q c hc)
    exact ⟨l, h1, (row_mem (h c hc l h1)).mp (of_decide_eq_true h2)⟩
  · intro q c hc
    obtain ⟨l, h1, h2⟩ := q c hc
    exact List.any_eq_true.mpr ⟨l, h1, decide_eq_true ((row_mem (h c hc l h1)).mpr h2)⟩
theorem row_of {k : Nat} {w : List Int} (h : w.map ab = nums k) : w = rowOf k (asOf w) := by
  have hv := isVal_of h
  unfold rowOf
  rw [← h, List.map_map]
  refine ((List.map_id _).symm.trans (List.map_congr_left fun x hx => ?_))
  show x = if asOf w (ab x) = true then ab x else 0 - ab x
  have hn := isVal_nz hv hx
  unfold asOf
  by_cases q : 0 < x
  · rw [ab_pos (by omega), if_pos (decide_eq_true hx)]
  · have e : ab x = -x := by rw [← ab_neg]; exact ab_pos (by unfold InR at hn; omega)
    rw [e, if_neg, show 0 - -x = x by omega]
    intro z
    have z := of_decide_eq_true z
    have := isVal_one hv hx z (by rw [ab_neg])
    unfold InR at hn; omega
theorem ways_all : ∀ {ns : List Int} {F : List (List Int)} {f g : List Int}, (∀ n ∈ ns, 0 < n) → f ∈ F → g.map ab = ns → f ++ g ∈ waysOf F ns
  | [], F, f, g, _, hf, e => by
    have : g = [] := by simpa using e
    rw [this, List.append_nil]; exact hf
  | n :: ns, F, f, g, hp, hf, e => by
    match g, e with
    | x :: g, e =>
      have e1 : ab x = n := (List.cons.inj e).1
      have e2 : g.map ab = ns := (List.cons.inj e).2
      have hn := hp n List.mem_cons_self
      show f ++ x :: g ∈ waysOf (F.map (· ++ [n]) ++ F.map (· ++ [0 - n])) ns
      have : f ++ x :: g = (f ++ [x]) ++ g := by simp
      rw [this]
      refine ways_all (fun m hm => hp m (List.mem_cons_of_mem _ hm)) ?_ e2
      have : x = n ∨ x = 0 - n := by unfold ab at e1; split at e1 <;> omega
      rcases this with rfl | rfl
      · exact List.mem_append_left _ (List.mem_map.mpr ⟨f, hf, rfl⟩)
      · exact List.mem_append_right _ (List.mem_map.mpr ⟨f, hf, rfl⟩)
theorem mem_rows {k : Nat} {w : List Int} : w ∈ waysOf [[]] (nums k) ↔ ∃ a, w = rowOf k a := by
  constructor
  · intro h
    obtain ⟨f, hf, g, rfl, e⟩ := ways_mem h
    rw [List.mem_singleton.mp hf, List.nil_append]
    refine ⟨_, row_of (e.trans ((List.map_congr_left (g := id) fun x hx => ab_pos (n := x) (by have := mem_nums.mp hx; omega)).trans (List.map_id _)))⟩
  · rintro ⟨a, rfl⟩
    exact ways_all (f := []) (fun n hn => by have := mem_nums.mp hn; omega) List.mem_cons_self (rowOf_ab k a)
/-- the rows that hold -/
def rws (k : Nat) (X Y : Cls') : List (List Int) := ((waysOf [[]] (nums k)).filter fun w => doHold X w).map (· ++ [(k : Int) + 1]) ++ ((waysOf [[]] (nums k)).filter fun w => doHold Y w).map (· ++ [0 - ((k : Int) + 1)])
theorem rowOf_succ (k : Nat) (a : As) : rowOf (k + 1) a = rowOf k a ++ [if a ((k : Int) + 1) then (k : Int) + 1 else 0 - ((k : Int) + 1)] := by
  unfold rowOf
  rw [nums_succ, List.map_append]; rfl
theorem rowOf_put (k : Nat) (a : As) (v : Bool) : rowOf k (putA a ((k : Int) + 1) v) = rowOf k a := by
  unfold rowOf
  refine List.map_congr_left fun x hx => ?_
  have := mem_nums.mp hx
  have e : putA a ((k : Int) + 1) v x = a x := if_neg (by omega)
  rw [e]
theorem mem_rws {k : Nat} {X Y B : Cls'} (W : Two k ((k : Int) + 1) X Y B) {r : List Int} : r ∈ rws k X Y ↔ ∃ a, r = rowOf (k + 1) a ∧ hold B a = true := by
  have e0 : ∀ a : As, lit a ((k : Int) + 1) = a ((k : Int) + 1) := fun a => by unfold lit; rw [if_pos (by omega)]
  have hX : ∀ a : As, a ((k : Int) + 1) = true → hold B a = hold X a := fun a h => W.hold_ (by rw [e0]; exact h)
  have hY : ∀ a : As, a ((k : Int) + 1) = false → hold B a = hold Y a := fun a h => W.symm.hold_ (by rw [lit_sub (by omega), e0, h]; rfl)
  unfold rws
  rw [List.mem_append, List.mem_map, List.mem_map]
  constructor
  · rintro (⟨w, hw, rfl⟩ | ⟨w, hw, rfl⟩)
    · obtain ⟨h1, h2⟩ := List.mem_filter.mp hw
      obtain ⟨a, rfl⟩ := mem_rows.mp h1
      have hp : putA a ((k : Int) + 1) true ((k : Int) + 1) = true := by unfold putA; rw [if_pos rfl]
      refine ⟨putA a ((k : Int) + 1) true, by rw [rowOf_succ, rowOf_put, hp]; rfl, ?_⟩
      rw [hX _ hp, ← row_hold W.inx, rowOf_put]; exact h2
    · obtain ⟨h1, h2⟩ := List.mem_filter.mp hw
      obtain ⟨a, rfl⟩ := mem_rows.mp h1
      have hp : putA a ((k : Int) + 1) false ((k : Int) + 1) = false := by unfold putA; rw [if_pos rfl]
      refine ⟨putA a ((k : Int) + 1) false, by rw [rowOf_succ, rowOf_put, hp]; rfl, ?_⟩
      rw [hY _ hp, ← row_hold W.iny, rowOf_put]; exact h2
  · rintro ⟨a, rfl, ha⟩
    cases q : a ((k : Int) + 1) with
    | true =>
      refine .inl ⟨rowOf k a, List.mem_filter.mpr ⟨mem_rows.mpr ⟨a, rfl⟩, ?_⟩, by rw [rowOf_succ, q]; rfl⟩
      rw [row_hold W.inx, ← hX a q]; exact ha
    | false =>
      refine .inr ⟨rowOf k a, List.mem_filter.mpr ⟨mem_rows.mpr ⟨a, rfl⟩, ?_⟩, by rw [rowOf_succ, q]; rfl⟩
      rw [row_hold W.iny, ← hY a q]; exact ha
theorem rws_sure {k : Nat} {X Y B : Cls'} (W : Two k ((k : Int) + 1) X Y B) (hc : ∀ c ∈ B, isCl ((k : Int) + 1) c = true) {r0 : List Int} (h0 : r0 ∈ rws k X Y) : srt (r0.filter fun l => (rws k X Y).all fun r => decide (l ∈ r)) = dueOf ((k : Int) + 1) B := by
  obtain ⟨a0', rfl, ha0⟩ := (mem_rws W).mp h0
  have nd : (rowOf (k + 1) a0').Nodup := List.Pairwise.of_map (S := (· ≠ ·)) ab (fun a b h e => h (by rw [e])) (by rw [rowOf_ab]; exact nums_nodup _)
  refine pw_unique (srt_lt (nd.filter _)) (due_pw _ _) fun l => ?_
  rw [(srt_perm _).mem_iff, List.mem_filter, List.all_eq_true, mem_due hc]
  have ek : ((k + 1 : Nat) : Int) = (k : Int) + 1 := by omega
  constructor
  · rintro ⟨h1, h2⟩
    have hr := row_in h1
    refine ⟨by rw [← ek]; exact hr, fun a ha => ?_⟩
    have := of_decide_eq_true (h2 _ ((mem_rws W).mpr ⟨a, rfl, ha⟩))
    exact (row_mem hr).mp this
  · rintro ⟨h1, h2⟩
    rw [← ek] at h1
    refine ⟨(row_mem h1).mpr (h2 _ ha0), fun r hr => ?_⟩
    obtain ⟨a, rfl, ha⟩ := (mem_rws W).mp hr
    exact decide_eq_true ((row_mem h1).mpr (h2 a ha))
theorem rws_nil {k : Nat} {X Y B : Cls'} (W : Two k ((k : Int) + 1) X Y B) (hc : ∀ c ∈ B, isCl ((k : Int) + 1) c = true) : rws k X Y = [] ↔ cnt ((k : Int) + 1) B = 0 := by
  rw [cnt_zero hc]
  constructor
  · intro h a
    cases q : hold B a with
    | false => rfl
    | true =>
      have := (mem_rws W).mpr ⟨a, rfl, q⟩
      rw [h] at this; cases this
  · intro h
    rw [List.eq_nil_iff_forall_not_mem]
    intro r hr
    obtain ⟨a, _, ha⟩ := (mem_rws W).mp hr
    rw [h a] at ha; cases ha
end Nt
set_option maxRecDepth 100000
set_option maxHeartbeats 4000000
/-! NtJ2: one bundle or the other: the law's look. -/
namespace Nt
open PySem PySem.Spec PyProof.Rows L2
/-- items with what stands at them, of a tuple -/
theorem wkTF {α : Type} {K : PySem.W.Frag} {b : Addr} (as : List α) (f : α → V) (F : α → Hp → Prop) : Walk (Itt K b) as.length (fun H => SqT K H b (as.map f) ∧ ∀ x ∈ as, F x H) (YF as f F) :=
  (wkT as f).mono (fun H h => h.1) fun i H x H' hi h ⟨e, a, ha, ex⟩ => ⟨e, a, ha, ex, h.2 a (List.mem_of_getElem? ha)⟩
/-- what sure_literals tells -/
def SureV (many : Int) (cs : Cls') (x : V) (H : Hp) : Prop := (x = .non ∧ cnt many cs = 0) ∨ ∃ q, x = .ref q ∧ H q = some (.tup ((dueOf many cs).map V.int)) ∧ cnt many cs ≠ 0
theorem SureV.same {many : Int} {cs : Cls'} {x : V} {H H' : Hp} (h : SureV many cs x H) (s : Same H H') : SureV many cs x H' := by
  rcases h with h | ⟨q, e, h1, h2⟩
  · exact .inl h
  · exact .inr ⟨q, e, s _ _ h1, h2⟩
theorem sure_ask {K : PySem.W.Frag} {H : Hp} {Q : VK} {E : XK} {v : V} {many : Int} {as : List Cl} (B : BdS H v many as) (hl : as.length < 30000) (k : ∀ H' x, Same H H' → SureV many (as.map (·.2)) x H' → Q x H') : sp_sure_literals K [v] H Q E :=
  ⟨v, many, as, rfl, B, hl, fun h H' s => k H' _ s (.inl ⟨rfl, (cnt_zero B.ok').mpr h⟩), fun H' q L s hq hp he hL => k H' _ s (.inr ⟨q, rfl, by rw [← due_sure B.ok' hp hL]; exact hq, (cnt_pos B.ok').mpr he⟩)⟩
def sp_law_is_paper_right (K : PySem.W.Frag) : Sp := fun vs H Q _ => ∃ (v1 v2 v3 : V) (k : Nat) (as1 as2 bs : List Cl), vs = [v1, v2, v3, .int ((k : Int) + 1)] ∧ BdS H v1 k as1 ∧ BdS H v2 k as2 ∧ BdS H v3 ((k : Int) + 1) bs ∧ 1 ≤ k ∧ k ≤ 6 ∧ as1.length ≤ 12 ∧ as2.length ≤ 12 ∧
  bs.map (·.2) = (as1.map (·.2)).map (wl (0 - ((k : Int) + 1))) ++ (as2.map (·.2)).map (wl ((k : Int) + 1)) ∧ ∀ H', Same H H' → Q (.bl true) H'
theorem len_law_is_paper_right (K : PySem.W.Frag) : ∀ vs H Q E, sp_law_is_paper_right K vs H Q E → vs.length = 4 := by
  rintro vs H Q E ⟨v1, v2, v3, k, as1, as2, bs, rfl, _⟩; rfl
theorem two_of {k : Nat} {X Y B : Cls'} (hX : ∀ c ∈ X, isCl k c = true) (hY : ∀ c ∈ Y, isCl k c = true) (e : B = X.map (wl (0 - ((k : Int) + 1))) ++ Y.map (wl ((k : Int) + 1))) : Two k ((k : Int) + 1) X Y B := by
  subst e
  refine ⟨ab_pos (by omega), fun c hc => List.mem_append_left _ (List.mem_map_of_mem hc), fun c hc => List.mem_append_right _ (List.mem_map_of_mem hc), fun d hd => ?_, fun c hc => (isCl_iff.mp (hX c hc)).1, fun c hc => (isCl_iff.mp (hY c hc)).1⟩
  rcases List.mem_append.mp hd with h | h
  · obtain ⟨c, h1, h2⟩ := List.mem_map.mp h
    exact .inl ⟨c, h1, h2.symm⟩
  · obtain ⟨c, h1, h2⟩ := List.mem_map.mp h
    exact .inr ⟨c, h1, h2.symm⟩
theorem wl_cl {k : Nat} {t : Int} {c : List Int} (ht : ab t = (k : Int) + 1) (hc : isCl k c = true) : isCl ((k : Int) + 1) (wl t c) = true := by
  obtain ⟨h1, h2⟩ := isCl_iff.mp hc
  refine isCl_iff.mpr ⟨fun l hl => ?_, wl_pw (pw_nodup h2) fun z => ?_⟩
  · rcases mem_wl.mp hl with h | h
    · have := h1 l h
      unfold InR at *; omega
    · rw [h]
      unfold ab at ht
      unfold InR
      split at ht <;> omega
  · have := ab_in (h1 t z)
    omega
theorem wl_len (t : Int) (c : List Int) : (wl t c).length = c.length + 1 := by
  unfold wl
  rw [(srt_perm _).length_eq, List.length_append]; rfl
def sp_law_right (K : PySem.W.Frag) : Sp := fun vs H Q _ => ∃ (p : Addr) (n : Nat), vs = [.ref p] ∧ Pot H p (n + 9000) ∧ ∀ H', Ke p H H' → Pot H' p n → Q (.bl true) H'
theorem len_law_right (K : PySem.W.Frag) : ∀ vs H Q E, sp_law_right K vs H Q E → vs.length = 1 := by
  rintro vs H Q E ⟨p, n, rfl, _⟩; rfl
section
variable {P : Program} {w : World} {K : PySem.W.Frag} {mg : Str → Option Value} {base : Heap}
theorem sc_law_right : FnScope ["pot", "many", "one", "other", "number", "both", "good", "row", "bundle", "rows", "sure", "literal", "lot", "given", "its", "told", "far", "fixed"] ["pot"] (defScope s_law_right) := ⟨rfl, rfl, rfl, by decide +kernel, rfl, by decide +kernel, by decide +kernel⟩
theorem ok_law_right (T : Tx K mg) (C_law_is_paper_right : CalF P w K mg base ("_law_is_paper_right", none) 8 ["one", "other", "both", "number"] (sp_law_is_paper_right K)) (C_law_some : CalF P w K mg base ("_law_some", none) 2 ["pot", "some", "many"] (sp_law_some K)) (C_law_take : CalF P w K mg base ("_law_take", none) 1 ["pot", "upto"] (sp_law_take K)) (C_law_clauses : CalF P w K mg base ("_law_clauses", none) 3 ["pot", "many", "most"] (sp_law_clauses K)) (C_law_with : CalF P w K mg base ("_law_with", none) 1 ["clauses", "literal"] (sp_law_with K)) (C_is_bundle : CalF P w K mg base ("is_bundle", none) 3 ["value"] (sp_is_bundle K)) (C_count_values : CalF P w K mg base ("count_values", none) 8 ["bundle"] (sp_count_values K)) (C_sure_literals : CalF P w K mg base ("sure_literals", none) 8 ["bundle"] (sp_sure_literals K)) (C_units_told : CalF P w K mg base ("units_told", none) 5 ["bundle", "given"] (sp_units_told K)) (C_law_rows : CalF P w K mg base ("_law_rows", none) 1 ["many"] (sp_law_rows K)) (C_law_all_hold : CalF P w K mg base ("_law_all_hold", none) 1 ["clauses", "row"] (sp_law_all_hold K)) (C_law_of : CalF P w K mg base ("_law_of", none) 2 ["pot", "some"] (sp_law_of K)) : CalG P w K mg base ("_law_right", none) 9 ["pot"] (sp_law_right K) := by
  have mg_int : mg "int" = none := T.free 60
  have mg_tuple : mg "tuple" = none := T.free 73
  have mg_repr : mg "repr" = none := T.free 67
  have mg_sorted : mg "sorted" = none := T.free 69
  have mg_list : mg "list" = none := T.free 63
  have mg_range : mg "range" = none := T.free 66
  have mg_min : mg "min" = none := T.free 65
  have mg_all : mg "all" = none := T.free 55
  obtain ⟨fd_law_is_paper_right, b_law_is_paper_right, G_law_is_paper_right, kp_law_is_paper_right⟩ := C_law_is_paper_right
  obtain ⟨fd_law_some, b_law_some, G_law_some, kp_law_some⟩ := C_law_some
  obtain ⟨fd_law_take, b_law_take, G_law_take, kp_law_take⟩ := C_law_take
  obtain ⟨fd_law_clauses, b_law_clauses, G_law_clauses, kp_law_clauses⟩ := C_law_clauses
  obtain ⟨fd_law_with, b_law_with, G_law_with, kp_law_with⟩ := C_law_with
  obtain ⟨fd_is_bundle, b_is_bundle, G_is_bundle, kp_is_bundle⟩ := C_is_bundle
  obtain ⟨fd_count_values, b_count_values, G_count_values, kp_count_values⟩ := C_count_values
  obtain ⟨fd_sure_literals, b_sure_literals, G_sure_literals, kp_sure_literals⟩ := C_sure_literals
  obtain ⟨fd_units_told, b_units_told, G_units_told, kp_units_told⟩ := C_units_told
  obtain ⟨fd_law_rows, b_law_rows, G_law_rows, kp_law_rows⟩ := C_law_rows
  obtain ⟨fd_law_all_hold, b_law_all_hold, G_law_all_hold, kp_law_all_hold⟩ := C_law_all_hold
  obtain ⟨fd_law_of, b_law_of, G_law_of, kp_law_of⟩ := C_law_of
  have mg_law_is_paper_right : mg "_law_is_paper_right" = some (.ref (He.ga K "_law_is_paper_right")) := T.glo 50
  have mg_law_some : mg "_law_some" = some (.ref (He.ga K "_law_some")) := T.glo 44
  have mg_law_take : mg "_law_take" = some (.ref (He.ga K "_law_take")) := T.glo 42
  have mg_law_clauses : mg "_law_clauses" = some (.ref (He.ga K "_law_clauses")) := T.glo 48
  have mg_law_with : mg "_law_with" = some (.ref (He.ga K "_law_with")) := T.glo 49
  have mg_is_bundle : mg "is_bundle" = some (.ref (He.ga K "is_bundle")) := T.glo 4
  have mg_count_values : mg "count_values" = some (.ref (He.ga K "count_values")) := T.glo 28
  have mg_sure_literals : mg "sure_literals" = some (.ref (He.ga K "sure_literals")) := T.glo 30
  have mg_units_told : mg "units_told" = some (.ref (He.ga K "units_told")) := T.glo 9
  have mg_law_rows : mg "_law_rows" = some (.ref (He.ga K "_law_rows")) := T.glo 46
  have mg_law_all_hold : mg "_law_all_hold" = some (.ref (He.ga K "_law_all_hold")) := T.glo 47
  have mg_law_of : mg "_law_of" = some (.ref (He.ga K "_law_of")) := T.glo 43
  refine calG T (d := d_law_right) 72 rfl sc_law_right rfl rfl (fun _ _ _ _ _ _ us hl => match us, hl with | [_], _ => rfl) (len_law_right K) ?_
  intro cdv A outer s H vs Q E gd hr h
  have hu := hu_of hr
  obtain ⟨p, n, rfl, hP, kk⟩ := h
  refine ⟨_, (pss_cons (ps_set (i := 1) sc_law_right.nd rfl (Or.inr rfl) (pe_callTy call_int1 (by rfl) mg_int bt_int (pa_cons (pe_op op_add pe_int (pe_call G_law_take (hr.mono (by decide)) (by rfl) mg_law_take kp_law_take b_law_take .nil pass0 (pa_cons (pv 0) (pa_cons pe_int pa_nil)))) pa_nil)))
      (pss_cons (ps_par (i := 2) (j := 3) (by rfl) sc_law_right.nd rfl rfl (by decide) rfl rfl (pa_cons (pe_tup (pa_cons (pv 1) (pa_cons (pe_call G_law_clauses (hr.mono (by decide)) (by rfl) mg_law_clauses kp_law_clauses b_law_clauses .nil pass0 (pa_cons (pv 0) (pa_cons (pv 1) (pa_cons pe_int pa_nil)))) pa_nil))) (pa_cons (pe_tup (pa_cons (pv 1) (pa_cons (pe_call G_law_clauses (hr.mono (by decide)) (by rfl) mg_law_clauses kp_law_clauses b_law_clauses .nil pass0 (pa_cons (pv 0) (pa_cons (pv 1) (pa_cons pe_int pa_nil)))) pa_nil))) pa_nil)) (by rfl))
      (pss_cons (ps_set (i := 4) sc_law_right.nd rfl (Or.inr rfl) (pe_op op_add (pv 1) pe_int))
      (pss_cons (ps_set (i := 5) sc_law_right.nd rfl (Or.inl rfl) (pe_tup (pa_cons (pv 4) (pa_cons (pe_op op_cat2 (pe_call G_law_with (hr.mono (by decide)) (by rfl) mg_law_with kp_law_with b_law_with .nil pass0 (pa_cons (pe_ix ix_tup2 (pv 2) pe_int (fun _ _ => rfl)) (pa_cons (pe_op op_sub pe_int (pv 4)) pa_nil))) (pe_call G_law_with (hr.mono (by decide)) (by rfl) mg_law_with kp_law_with b_law_with .nil pass0 (pa_cons (pe_ix ix_tup2 (pv 3) pe_int (fun _ _ => rfl)) (pa_cons (pv 4) pa_nil)))) pa_nil))))
      (pss_cons (ps_if (PW.pt (pw_or (pt_cmpR op_notBl (pe_call G_is_bundle (hr.mono (by decide)) (by rfl) mg_is_bundle kp_is_bundle b_is_bundle .nil pass0 (pa_cons (pv 5) pa_nil)) pe_bl (nomark _)) (pw_or1 (pt_cmpR op_ne (pe_call G_count_values (hr.mono (by decide)) (by rfl) mg_count_values kp_count_values b_count_values .nil pass0 (pa_cons (pv 5) pa_nil)) (pe_op op_add (pe_call G_count_values (hr.mono (by decide)) (by rfl) mg_count_values kp_count_values b_count_values .nil pass0 (pa_cons (pv 2) pa_nil)) (pe_call G_count_values (hr.mono (by decide)) (by rfl) mg_count_values kp_count_values b_count_values .nil pass0 (pa_cons (pv 3) pa_nil))) (nomark _))))) (pss_one (ps_ret pe_bl)) pss_nil)
      (pss_cons (ps_setLc (i := 6) (own := [("bundle", 8)]) (g := gName 8) (tt := tYes) rfl sc_law_right.nd rfl rfl (sw_true rfl rfl rfl (by decide +kernel)) (pi_tupK (K := K) rfl (pe_tup (pa_cons (pv 2) (pa_cons (pv 3) pa_nil)))) (blkOk_by (by kernel_rfl)) (fun _ _ _ _ _ => (pg_name (i := 8) sc_law_right.nd rfl (Or.inr rfl))) (fun _ _ _ _ _ => pts_nil) (fun _ _ _ _ _ => (pe_lc (own := [("row", 7)]) (g := gName 7) rfl sc_law_right.nd (pi_listK (K := K) rfl (pe_call G_law_rows (hr.mono (by decide)) (by rfl) mg_law_rows kp_law_rows b_law_rows .nil pass0 (pa_cons (pv 1) pa_nil))) (blkOk_by (by kernel_rfl)) (fun _ _ _ _ _ => (pg_name (i := 7) sc_law_right.nd rfl (Or.inl rfl))) (fun _ _ _ _ _ => (pts_one (pt_val (pe_call G_law_all_hold (hr.mono (by decide)) (by rfl) mg_law_all_hold kp_law_all_hold b_law_all_hold .nil pass0 (pa_cons (pe_ix ix_tup2 (pv 8) pe_int (fun _ _ => rfl)) (pa_cons (pv 7) pa_nil)))))) (fun _ _ _ _ _ => (pv 7)))))
      (pss_cons (ps_set (i := 9) sc_law_right.nd rfl (Or.inr rfl) (pe_op op_cat (pe_lc (own := [("row", 7)]) (g := gName 7) (tt := tYes) rfl sc_law_right.nd (pi_listK (K := K) rfl (pe_ix ix_list2 (pv 6) pe_int (fun _ _ => rfl))) (blkOk_by (by kernel_rfl)) (fun _ _ _ _ _ => (pg_name (i := 7) sc_law_right.nd rfl (Or.inl rfl))) (fun _ _ _ _ _ => pts_nil) (fun _ _ _ _ _ => (pe_op op_cat2 (pv 7) (pe_tup (pa_cons (pv 4) pa_nil))))) (pe_lc (own := [("row", 7)]) (g := gName 7) (tt := tYes) rfl sc_law_right.nd (pi_listK (K := K) rfl (pe_ix ix_list2 (pv 6) pe_int (fun _ _ => rfl))) (blkOk_by (by kernel_rfl)) (fun _ _ _ _ _ => (pg_name (i := 7) sc_law_right.nd rfl (Or.inl rfl))) (fun _ _ _ _ _ => pts_nil) (fun _ _ _ _ _ => (pe_op op_cat2 (pv 7) (pe_tup (pa_cons (pe_op op_sub pe_int (pv 4)) pa_nil)))))))
      (pss_cons (ps_set (i := 10) sc_law_right.nd rfl (Or.inl rfl) (pe_mono (pe_ifExp (pt_cmpR (op_eqE hr.units) (pv 9) (pe_lst pa_nil) (nomark _)) pe_non (pe_callTy call_tuple2 (by rfl) mg_tuple bt_tuple (pa_cons (pe_callB cr_sorted2 (by rfl) mg_sorted bt_sorted (pa_cons (pe_lc (own := [("literal", 11)]) (g := gName 11) rfl sc_law_right.nd (pi_tupK (K := K) rfl (pe_ix ix_list2 (pv 9) pe_int (fun _ _ => rfl))) (blkOk_by (by kernel_rfl)) (fun _ _ _ _ _ => (pg_name (i := 11) sc_law_right.nd rfl (Or.inr rfl))) (fun _ _ _ _ _ => (pts_one (pt_val (pe_callB (cr_all2 rfl) (by rfl) mg_all bt_all (pa_cons (pe_lc (own := [("row", 7)]) (g := gName 7) (tt := tYes) rfl sc_law_right.nd (pi_listK (K := K) rfl (pv 9)) (blkOk_by (by kernel_rfl)) (fun _ _ _ _ _ => (pg_name (i := 7) sc_law_right.nd rfl (Or.inl rfl))) (fun _ _ _ _ _ => pts_nil) (fun _ _ _ _ _ => (pe_cmpR op_in2 (pv 11) (pv 7) (by rfl)))) pa_nil))))) (fun _ _ _ _ _ => (pv 11))) pa_nil)) pa_nil)))))
      (pss_cons (ps_if (pt_cmpR op_ne (pe_callB (cr_repr gd hr.units) (by rfl) mg_repr bt_repr (pa_cons (pe_call G_sure_literals (hr.mono (by decide)) (by rfl) mg_sure_literals kp_sure_literals b_sure_literals .nil pass0 (pa_cons (pv 5) pa_nil)) pa_nil)) (pe_callB (cr_repr gd hr.units) (by rfl) mg_repr bt_repr (pa_cons (pv 10) pa_nil)) (nomark _)) (pss_one (ps_ret pe_bl)) pss_nil)
      (pss_cons (ps_for PassesOwn.never rfl (pi_tupK (K := K) rfl (pe_tup (pa_cons (pe_tup (pa_cons (pv 2) (pa_cons (pv 4) pa_nil))) (pa_cons (pe_tup (pa_cons (pv 3) (pa_cons (pe_op op_sub pe_int (pv 4)) pa_nil))) pa_nil)))) (pg_tup rfl (pgs_cons (pg_name (i := 8) sc_law_right.nd rfl (Or.inl rfl)) (pgs_cons (pg_name (i := 11) sc_law_right.nd rfl (Or.inl rfl)) pgs_nil))) (pss_cons (ps_set (i := 12) sc_law_right.nd rfl (Or.inl rfl) (pe_call G_law_some (hr.mono (by decide)) (by rfl) mg_law_some kp_law_some b_law_some .nil pass0 (pa_cons (pv 0) (pa_cons (pe_listRg rfl (by rfl) mg_list (prg_2 (by rfl) mg_range pe_int (pe_op op_add (pv 1) pe_int))) (pa_cons (pe_call G_law_take (hr.mono (by decide)) (by rfl) mg_law_take kp_law_take b_law_take .nil pass0 (pa_cons (pv 0) (pa_cons (pe_op op_add (pe_callB (call_min2 rfl) (by rfl) mg_min bt_min (pa_cons (pv 1) (pa_cons pe_int pa_nil))) pe_int) pa_nil))) pa_nil)))))
      (pss_cons (ps_set (i := 13) sc_law_right.nd rfl (Or.inl rfl) (pe_callTy call_tuple2 (by rfl) mg_tuple bt_tuple (pa_cons (pe_callB cr_sorted2 (by rfl) mg_sorted bt_sorted (pa_cons (pe_lc (own := [("its", 14)]) (g := gName 14) (tt := tYes) rfl sc_law_right.nd (pi_listK (K := K) rfl (pv 12)) (blkOk_by (by kernel_rfl)) (fun _ _ _ _ _ => (pg_name (i := 14) sc_law_right.nd rfl (Or.inl rfl))) (fun _ _ _ _ _ => pts_nil) (fun _ _ _ _ _ => (pe_op op_mulW (pe_callTy call_int1 (by rfl) mg_int bt_int (pa_cons (pv 14) pa_nil)) (pe_call G_law_of (hr.mono (by decide)) (by rfl) mg_law_of kp_law_of b_law_of .nil pass0 (pa_cons (pv 0) (pa_cons (pe_lst (pa_cons pe_int (pa_cons (pe_un un_neg pe_int) pa_nil))) pa_nil)))))) pa_nil)) pa_nil)))
      (pss_cons (ps_par (i := 15) (j := 16) (by rfl) sc_law_right.nd rfl rfl (by decide) rfl rfl (pa_cons (pe_call G_units_told (hr.mono (by decide)) (by rfl) mg_units_told kp_units_told b_units_told .nil pass0 (pa_cons (pv 8) (pa_cons (pv 13) pa_nil))) (pa_cons (pe_call G_units_told (hr.mono (by decide)) (by rfl) mg_units_told kp_units_told b_units_told .nil pass0 (pa_cons (pv 5) (pa_cons (pe_callTy call_tuple2 (by rfl) mg_tuple bt_tuple (pa_cons (pe_callB cr_sortedTp (by rfl) mg_sorted bt_sorted (pa_cons (pe_op op_cat2 (pv 13) (pe_tup (pa_cons (pv 11) pa_nil))) pa_nil)) pa_nil)) pa_nil))) pa_nil)) (by rfl))
      (pss_cons (ps_if (PW.pt (pw_or (pt_cmpR op_ne (pe_ix ix_tup2 (pv 15) pe_int (fun _ _ => rfl)) (pe_ix ix_tup2 (pv 16) pe_int (fun _ _ => rfl)) (nomark _)) (pw_or1 (PW.pt (pw_and (pt_cmpR op_eq (pe_ix ix_tup2 (pv 15) pe_int (fun _ _ => rfl)) pe_str (nomark _)) (pw_and1 (pt_cmpR (op_neT hr.units) (pe_ix ix_tup2 (pv 16) pe_int (fun _ _ => rfl)) (pe_callTy call_tuple2 (by rfl) mg_tuple bt_tuple (pa_cons (pe_callB cr_sortedTp (by rfl) mg_sorted bt_sorted (pa_cons (pe_op op_cat2 (pe_ix ix_tup2 (pv 15) pe_int (fun _ _ => rfl)) (pe_tup (pa_cons (pv 11) pa_nil))) pa_nil)) pa_nil)) (nomark _)))))))) (pss_one (ps_ret pe_bl)) pss_nil)
      (pss_cons (ps_set (i := 17) sc_law_right.nd rfl (Or.inl rfl) (pe_tup (pa_cons (pv 4) (pa_cons (pe_op op_cat2 (pe_ix ix_tup2 (pv 5) pe_int (fun _ _ => rfl)) (pe_tup (pa_cons (pe_tup (pa_cons (pv 11) pa_nil)) pa_nil))) pa_nil))))
      (pss_one (ps_if (pt_cmpR op_ne (pe_call G_count_values (hr.mono (by decide)) (by rfl) mg_count_values kp_count_values b_count_values .nil pass0 (pa_cons (pv 17) pa_nil)) (pe_call G_count_values (hr.mono (by decide)) (by rfl) mg_count_values kp_count_values b_count_values .nil pass0 (pa_cons (pv 8) pa_nil)) (nomark _)) (pss_one (ps_ret pe_bl)) pss_nil))))))))
      (pss_one (ps_ret (pe_call G_law_is_paper_right (hr.mono (by decide)) (by rfl) mg_law_is_paper_right kp_law_is_paper_right b_law_is_paper_right .nil pass0 (pa_cons (pv 2) (pa_cons (pv 3) (pa_cons (pv 5) (pa_cons (pv 4) pa_nil))))))))))))))))), ?_⟩
  refine ⟨_, rfl, p, 6, n + 8999, rfl, hP, by decide, by decide, fun H1 d K1 P1 d0 d1 => ⟨_, _, rfl, rfl, .inl ⟨_, rfl, ?_⟩⟩⟩
  obtain ⟨D, rfl⟩ : ∃ D : Nat, d = D := ⟨d.toNat, (Int.toNat_of_nonneg d0).symm⟩
  obtain ⟨k, hk⟩ : ∃ k : Nat, 1 + D = k := ⟨_, rfl⟩
  have hkz : (1 : Int) + (D : Int) = (k : Int) := by omega
  rw [hkz]
  refine ⟨_, rfl, _, rfl, _, rfl, p, D, n + 7000, by rw [hkz]; rfl, by omega, P1.less (by omega), fun H2 q1 as1 K2 P2 hq1 hc1 l1 ok1 => ⟨by show 2 ≤ sizeLine; decide, fun t1 ht1 => ?_⟩⟩
  have g2 := Same.new (o := .tup [.int k, .ref q1]) ht1
  refine ⟨_, rfl, _, rfl, _, rfl, p, D, n + 6000, by rw [hkz]; rfl, by omega, (P2.same g2).less (by omega), fun H3 q2 as2 K3 P3 hq2 hc2 l2 ok2 => ⟨by show 2 ≤ sizeLine; decide, fun t2 ht2 => ⟨_, _, rfl, ?_⟩⟩⟩
  rw [hkz] at ok1 ok2
  have g3 := Same.new (o := .tup [.int k, .ref q2]) ht2
  have P2' := P2.same g2
  have K23 : Ke p (upd H2 t1 (.tup [.int k, .ref q1])) H3 := K3
  have ht1' : upd H3 t2 (.tup [.int k, .ref q2]) t1 = some (.tup [.int k, .ref q1]) := g3 _ _ (K3.tup P2' upd_same)
  have hq1' := g3 _ _ (K3.tup P2' (g2 _ _ hq1))
  have hc1' := (K3.cls P2' (hc1.mono g2)).mono g3
  have hq2' := g3 _ _ hq2
  have hc2' := hc2.mono g3
  have ht2' : upd H3 t2 (.tup [.int k, .ref q2]) t2 = some (.tup [.int k, .ref q2]) := upd_same
  have P4 := P3.same g3
  have K4 : Ke p H (upd H3 t2 (.tup [.int k, .ref q2])) := K1.trans (K2.trans ((Ke.same g2).trans (K3.trans (Ke.same g3))))
  generalize upd H3 t2 (.tup [.int k, .ref q2]) = H4 at ht1' hq1' hc1' hq2' hc2' ht2' P4 K4
  clear hq1 hc1 hq2 hc2 g2 g3 K2 K3 K23 ht1 ht2 P2 P2' P3
  have B1 : BdS H4 (.ref t1) k as1 := ⟨⟨⟨t1, q1, rfl, ht1', hq1'⟩, hc1'⟩, by omega, by omega, fun x hx => (ok1 x hx).1, by omega⟩
  have B2 : BdS H4 (.ref t2) k as2 := ⟨⟨⟨t2, q2, rfl, ht2', hq2'⟩, hc2'⟩, by omega, by omega, fun x hx => (ok2 x hx).1, by omega⟩
  refine ⟨_, rfl, _, _, rfl, rfl, ?_⟩
  refine ⟨_, rfl, _, rfl, t1, _, _, _, rfl, rfl, ht1', rfl, _, rfl, _, _, rfl, rfl, q1, _, as1, rfl, hq1', hc1', by omega, fun x hx => by have := (ok1 x hx).2; omega, fun H5 w1 b1 s5 hw1 hb1 e1 => ?_⟩
  refine ⟨_, rfl, t2, _, _, _, rfl, rfl, s5 _ _ ht2', rfl, _, rfl, q2, _, as2, rfl, s5 _ _ hq2', hc2'.mono s5, by omega, fun x hx => by have := (ok2 x hx).2; omega, fun H6 w2 b2 s6 hw2 hb2 e2 => ?_⟩
  have bl1 : b1.length = as1.length := by have := congrArg List.length e1; simpa using this
  have bl2 : b2.length = as2.length := by have := congrArg List.length e2; simpa using this
  refine ⟨w1, w2, _, _, rfl, rfl, s6 _ _ hw1, hw2, by rw [List.length_map, List.length_map]; omega, fun w3 H7 s7 hw3 => ⟨by show 2 ≤ sizeLine; decide, fun t3 ht3 => ?_⟩⟩
  have g8 := Same.new (o := .tup [.int ((k : Int) + 1), .ref w3]) ht3
  have s48 := s5.trans (s6.trans (s7.trans g8))
  have ht3' : upd H7 t3 (.tup [.int ((k : Int) + 1), .ref w3]) t3 = some (.tup [.int ((k : Int) + 1), .ref w3]) := upd_same
  have hw3' := g8 _ _ hw3
  have hb' : CLs (upd H7 t3 (.tup [.int ((k : Int) + 1), .ref w3])) (b1 ++ b2) := fun x hx => by
    rcases List.mem_append.mp hx with hx | hx
    · exact (s6.trans (s7.trans g8)) _ _ (hb1 x hx)
    · exact (s7.trans g8) _ _ (hb2 x hx)
  have eb : (b1 ++ b2).map (·.2) = (as1.map (·.2)).map (wl (0 - ((k : Int) + 1))) ++ (as2.map (·.2)).map (wl ((k : Int) + 1)) := by
    rw [List.map_append, e1, e2, List.map_map, List.map_map]; rfl
  obtain ⟨bs, hbs⟩ : ∃ bs, bs = b1 ++ b2 := ⟨_, rfl⟩
  rw [← hbs] at hb' eb
  rw [← List.map_append, ← hbs] at hw3'
  have bsl : bs.length ≤ 24 := by rw [hbs, List.length_append]; omega
  generalize upd H7 t3 (.tup [.int ((k : Int) + 1), .ref w3]) = H8 at s48 ht3' hw3' hb'
  have bcl : ∀ x ∈ bs, isCl ((k : Int) + 1) x.2 = true := by
    intro x hx
    have : x.2 ∈ bs.map (·.2) := List.mem_map_of_mem hx
    rw [eb] at this
    rcases List.mem_append.mp this with h | h
    · obtain ⟨c, h1, h2⟩ := List.mem_map.mp h
      rw [← h2]
      exact wl_cl (by rw [Int.zero_sub, ab_neg]; exact ab_pos (by omega)) (B1.ok' c h1)
    · obtain ⟨c, h1, h2⟩ := List.mem_map.mp h
      rw [← h2]
      exact wl_cl (ab_pos (by omega)) (B2.ok' c h1)
  have B3 : BdS H8 (.ref t3) ((k : Int) + 1) bs := ⟨⟨⟨t3, w3, rfl, ht3', hw3'⟩, hb'⟩, by omega, by omega, bcl, by omega⟩
  have B1 := B1.mono s48
  have B2 := B2.mono s48
  have W := two_of B1.ok' B2.ok' eb
  have P8 := P4.same s48
  have K8 := K4.trans (Ke.same s48)
  have ht1 := s48 _ _ ht1'
  have ht2 := s48 _ _ ht2'
  have hq1 := s48 _ _ hq1'
  have hq2 := s48 _ _ hq2'
  clear ht1' ht2' hq1' hq2' hc1' hc2' s48 P4 K4 hw1 hw2 hb1 hb2
  have c256 : ∀ (j : Int) (cs : Cls'), j ≤ 8 → cnt j cs ≤ 4000 := fun j cs hj => Nat.le_trans (cnt_max _ cs) (Nat.le_trans (Nat.pow_le_pow_right (by decide) (show j.toNat ≤ 8 by omega)) (by decide))
  refine ⟨_, rfl, .ref t3, _, bs, rfl, B3.bd, B3.ok, fun H9 s9 => ⟨_, _, rfl, rfl, _, rfl, ?_⟩⟩
  rw [decide_eq_true rfl]
  refine iteF ?_
  refine ⟨_, rfl, .ref t3, _, bs, rfl, B3.mono s9, c256 _ _ (by omega), fun H10 s10 => ?_⟩
  refine ⟨_, rfl, .ref t1, _, as1, rfl, (B1.mono s9).mono s10, c256 _ _ (by omega), fun H11 s11 => ?_⟩
  refine ⟨_, rfl, .ref t2, _, as2, rfl, ((B2.mono s9).mono s10).mono s11, c256 _ _ (by omega), fun H12 s12 => ?_⟩
  refine ⟨_, _, rfl, rfl, rfl, _, rfl, ?_⟩
  rw [W.count, dec_int, decide_eq_true (Int.natCast_add _ _)]
  refine iteF ?_
  have s812 := s9.trans (s10.trans (s11.trans s12))
  have B1 := B1.mono s812
  have B2 := B2.mono s812
  have B3 := B3.mono s812
  have P12 := P8.same s812
  have K12 := K8.trans (Ke.same s812)
  have ht1 := s812 _ _ ht1
  have ht2 := s812 _ _ ht2
  have hq1 := s812 _ _ hq1
  have hq2 := s812 _ _ hq2
  have hw3 := s812 _ _ hw3'
  have ht3 := s812 _ _ ht3'
  clear P8 K8 s812 s9 s10 s11 s12 hw3' ht3' hb'
  -- the rows that hold
  refine ⟨_, rfl, _, rfl, by show 2 ≤ sizeLine; decide, fun t4 ht4 => ?_⟩
  have g13 := Same.new (o := .tup [.ref t1, .ref t2]) ht4
  have ht4' : upd H12 t4 (.tup [.ref t1, .ref t2]) t4 = some (.tup ([(t1, (q1, as1)), (t2, (q2, as2))].map fun x : Addr × (Addr × List Cl) => V.ref x.1)) := upd_same
  generalize upd H12 t4 (.tup [.ref t1, .ref t2]) = H13 at g13 ht4'
  refine ⟨t4, rfl, ⟨_, SqT.of ht4'⟩, ?_⟩
  have hin : ∀ a ∈ [(t1, (q1, as1)), (t2, (q2, as2))], H13 a.1 = some (.tup [.int k, .ref a.2.1]) ∧ H13 a.2.1 = some (.tup (a.2.2.map rf)) ∧ CLs H13 a.2.2 ∧ a.2.2.length ≤ 12 ∧ ∀ x ∈ a.2.2, x.2.length ≤ 3 := fun a ha => by
    rcases List.mem_cons.mp ha with rfl | ha
    · exact ⟨g13 _ _ ht1, g13 _ _ hq1, B1.bd.cls.mono g13, l1, fun x hx => (ok1 x hx).2⟩
    · rw [List.mem_singleton.mp ha]
      exact ⟨g13 _ _ ht2, g13 _ _ hq2, B2.bd.cls.mono g13, l2, fun x hx => (ok2 x hx).2⟩
  refine lcA [(t1, (q1, as1)), (t2, (q2, as2))] _ (wkT _ fun x : Addr × (Addr × List Cl) => V.ref x.1) yName (fun _ => true) (fun D' a y H' => ∃ (q : Addr) (rs : List Cl), y = .ref q ∧ q ≠ D' ∧ H' q = some (.lst (rs.map rf)) ∧ CLs H' rs ∧ (∀ x ∈ rs, x.1 ≠ D') ∧ rs.map (·.2) = (waysOf [[]] (nums k)).filter fun w => doHold (a.2.2.map (·.2)) w)
    (Nat.le_of_ble_eq_true rfl) (by intro _; rfl) (fun H h => SqT.of (h _ _ ht4')) ?_ (fun a ha H s Qb q => q H (Same.refl _)) ?_ ?_
  · rintro D' a y H' H'' ⟨q, rs, rfl, nq, hq, hrs, nr, e⟩ kp
    exact ⟨q, rs, rfl, nq, kp _ _ nq hq, fun x hx => kp _ _ (nr x hx) (hrs x hx), nr, e⟩
  · intro D' a ha H14 acc _ s14 hD' hacc Qe q
    obtain ⟨i1, i2, i3, i4, i5⟩ := hin a ha
    refine ⟨_, rfl, D, by rw [hkz]; rfl, by omega, fun H15 q15 bs15 s15 hq15 hb15 e15 => ?_⟩
    have n64 : bs15.length ≤ 64 := by
      have h1 := congrArg List.length e15
      rw [List.length_map, ways_len, nums_len] at h1
      have h2 : 2 ^ (1 + D) ≤ 2 ^ 6 := Nat.pow_le_pow_right (by decide) (by omega)
      have h3 : 2 ^ 6 = 64 := rfl
      have h4 : [([] : List Int)].length = 1 := rfl
      rw [h4] at h1
      omega
    refine ⟨q15, rfl, ⟨_, SqL.of hq15⟩, ?_⟩
    refine lcV bs15 _ (wkL bs15 rf) yName (fun x => doHold (a.2.2.map (·.2)) x.2) rf (by omega) (by intro _; rfl) (fun H h => SqL.of (h _ _ hq15)) ?_ ?_ ?_
    · intro x hx H16 s16 Qb qb
      have s1316 := s14.trans (s15.trans s16)
      exact ⟨_, rfl, a.1, _, _, _, rfl, rfl, s1316 _ _ i1, rfl, _, rfl, a.2.1, x.1, a.2.2, x.2, rfl, s1316 _ _ i2, i3.mono s1316, by omega, fun z hz => by have := i5 z hz; omega, s16 _ _ (hb15 x hx), fun H17 s17 => ⟨_, rfl, qb _ s17⟩⟩
    · intro x hx _ H16 s16 Qe2 q2
      exact ⟨_, rfl, q2 _ (Same.refl _)⟩
    · intro D16 H16 hD16 s16 h16
      have hacc15 := s15 _ _ hacc
      refine q _ _ (s15.trans s16) ⟨D16, bs15.filter fun x => doHold (a.2.2.map (·.2)) x.2, rfl, (ne_of_none hacc15 hD16).symm, h16, fun x hx => s16 _ _ (hb15 x (List.mem_filter.mp hx).1), fun x hx => ne_of (hb15 x (List.mem_filter.mp hx).1) hacc15 (by intro z; cases z), ?_⟩
      rw [show k = 1 + D from hk.symm, ← e15, List.filter_map]
      rfl
  intro D17 H17 ys hD17 s17 h17 hpr
  rw [filter_tt] at hpr
  cases hpr with
  | cons r1 hpr =>
  cases hpr with
  | cons r2 hpr =>
  cases hpr
  obtain ⟨g0, rs0, rfl, _, hg0, hrs0, _, er0⟩ := r1
  obtain ⟨g1, rs1, rfl, _, hg1, hrs1, _, er1⟩ := r2
  have s1217 := g13.trans s17
  have rl : ∀ {rs : List Cl} {X : Cls'}, rs.map (·.2) = (waysOf [[]] (nums k)).filter (fun w => doHold X w) → rs.length ≤ 64 ∧ ∀ x ∈ rs, x.2.length = k := fun {rs X} e => by
    constructor
    · have h1 := congrArg List.length e
      rw [List.length_map] at h1
      have h5 := List.length_filter_le (fun w => doHold X w) (waysOf [[]] (nums k))
      rw [ways_len, nums_len] at h5
      have h2 : 2 ^ k ≤ 2 ^ 6 := Nat.pow_le_pow_right (by decide) (by omega)
      have h3 : 2 ^ 6 = 64 := rfl
      have h4 : [([] : List Int)].length = 1 := rfl
      rw [h4] at h5
      omega
    · intro x hx
      have h1 : x.2 ∈ rs.map (·.2) := List.mem_map_of_mem hx
      rw [e] at h1
      obtain ⟨a, h2⟩ := mem_rows.mp (List.mem_filter.mp h1).1
      rw [h2]
      have := congrArg List.length (rowOf_ab k a)
      rwa [List.length_map, nums_len] at this
  obtain ⟨n0, m0⟩ := rl er0
  obtain ⟨n1, m1⟩ := rl er1
  refine ⟨_, rfl, D17, _, 0, _, rfl, rfl, h17, rfl, g0, rfl, ⟨_, SqL.of hg0⟩, ?_⟩
  refine lcT0 rs0 _ (wkL rs0 rf) yName (fun x => (x.2 ++ [(k : Int) + 1]).map V.int) (by omega) (by intro _; rfl) (fun H h => SqL.of (h _ _ hg0)) ?_ ?_
  · intro x hx H18 s18 Qe q
    refine ⟨_, rfl, _, rfl, by show 1 ≤ sizeLine; decide, fun t ht => ⟨x.1, t, _, _, rfl, rfl, Same.new ht _ _ (s18 _ _ (hrs0 x hx)), upd_same, by have := m0 x hx; rw [List.length_map]; show _ + 1 ≤ _; omega, fun c H19 s19 hc => q c H19 ((Same.new ht).trans s19) (by rw [List.map_append]; exact hc)⟩⟩
  intro D18 H18 ys _ s18 h18 hp
  obtain ⟨u0, rfl, eu0, hu0⟩ := paired_cls (f := fun x : Cl => x.2 ++ [(k : Int) + 1]) hp
  have hg1' := s18 _ _ hg1
  refine ⟨_, rfl, D17, _, 1, _, rfl, rfl, s18 _ _ h17, rfl, g1, rfl, ⟨_, SqL.of hg1'⟩, ?_⟩
  refine lcT0 rs1 _ (wkL rs1 rf) yName (fun x => (x.2 ++ [0 - ((k : Int) + 1)]).map V.int) (by omega) (by intro _; rfl) (fun H h => SqL.of (h _ _ hg1')) ?_ ?_
  · intro x hx H19 s19 Qe q
    refine ⟨_, rfl, _, rfl, _, _, rfl, rfl, by show 1 ≤ sizeLine; decide, fun t ht => ⟨x.1, t, _, _, rfl, rfl, Same.new ht _ _ (s19 _ _ (s18 _ _ (hrs1 x hx))), upd_same, by have := m1 x hx; rw [List.length_map]; show _ + 1 ≤ _; omega, fun c H20 s20 hc => q c H20 ((Same.new ht).trans s20) (by rw [List.map_append]; exact hc)⟩⟩
  intro D19 H19 ys _ s19 h19 hp
  obtain ⟨u1, rfl, eu1, hu1⟩ := paired_cls (f := fun x : Cl => x.2 ++ [0 - ((k : Int) + 1)]) hp
  have ul0 : u0.length = rs0.length := by have := congrArg List.length eu0; simpa using this
  have ul1 : u1.length = rs1.length := by have := congrArg List.length eu1; simpa using this
  have z : (u0.map rf).length + (u1.map rf).length < 100000 := by rw [List.length_map, List.length_map]; omega
  refine ⟨D18, D19, _, _, rfl, rfl, s19 _ _ h18, h19, Nat.le_of_lt (sz_lt z), fun R hR => ?_⟩
  have g20 := Same.new (o := .lst (u0.map rf ++ u1.map rf)) hR
  obtain ⟨rr, hrr⟩ : ∃ rr, rr = u0 ++ u1 := ⟨_, rfl⟩
  have hRR : upd H19 R (.lst (u0.map rf ++ u1.map rf)) R = some (.lst (rr.map rf)) := by rw [hrr, List.map_append]; exact upd_same
  have hrc : CLs (upd H19 R (.lst (u0.map rf ++ u1.map rf))) rr := by
    rw [hrr]
    intro x hx
    rcases List.mem_append.mp hx with hx | hx
    · exact (s19.trans g20) _ _ (hu0 x hx)
    · exact g20 _ _ (hu1 x hx)
  have err : rr.map (·.2) = rws k (as1.map (·.2)) (as2.map (·.2)) := by
    rw [hrr, List.map_append, eu0, eu1]
    unfold rws
    have e0 : (waysOf [[]] (nums k)).filter (fun w => doHold (as1.map (·.2)) w) = rs0.map (·.2) := er0.symm
    have e1 : (waysOf [[]] (nums k)).filter (fun w => doHold (as2.map (·.2)) w) = rs1.map (·.2) := er1.symm
    rw [e0, e1, List.map_map, List.map_map]
    rfl
  have rrl : rr.length ≤ 128 := by rw [hrr, List.length_append]; omega
  have rrx : ∀ x ∈ rr, x.2.length ≤ 20 := fun x hx => by
    have h1 : x.2 ∈ rr.map (·.2) := List.mem_map_of_mem hx
    rw [err] at h1
    obtain ⟨a, h2, _⟩ := (mem_rws W).mp h1
    have := congrArg List.length (rowOf_ab (k + 1) a)
    rw [List.length_map, nums_len] at this
    rw [h2]; omega
  have s1220 := s1217.trans (s18.trans (s19.trans g20))
  generalize upd H19 R (.lst (u0.map rf ++ u1.map rf)) = H20 at hRR hrc s1220
  clear hrs0 hrs1 hu0 hu1 h18 h19 h17 hg0 hg1 hg1' ht4' hin g20 er0 er1 eu0 eu1
  -- the sure ones of them
  refine ⟨fun x H' => Same H20 H' ∧ SureV ((k : Int) + 1) (bs.map (·.2)) x H', ?_, ?_⟩
  · refine ⟨_, rfl, Nat.zero_le _, fun e he => ?_⟩
    have ge := Same.new (o := .lst []) he
    refine ⟨R, e, _, rfl, rfl, .inl ⟨ge _ _ hRR, upd_same⟩, dd_cls (hrc.mono ge), _, rfl, ?_⟩
    rw [List.isEmpty_map]
    cases rr with
    | nil =>
      refine iteT ⟨ge, .inl ⟨rfl, ?_⟩⟩
      exact (rws_nil W B3.ok').mp (by rw [← err]; rfl)
    | cons r0 rt =>
      refine iteF ?_
      have hR2 := ge _ _ hRR
      have hrc2 := hrc.mono ge
      have h0 := hrc2 r0 List.mem_cons_self
      refine ⟨_, rfl, R, _, 0, _, rfl, rfl, hR2, atI_nat (xs := (r0 :: rt).map rf) (j := 0) rfl, r0.1, rfl, ⟨_, SqT.of h0⟩, ?_⟩
      refine lcV r0.2 _ (wkT r0.2 V.int) yName (fun l => (r0 :: rt).all fun x => decide (l ∈ x.2)) V.int (by have := rrx r0 List.mem_cons_self; omega) (by intro _; rfl) (fun H h => SqT.of (h _ _ h0)) ?_ ?_ ?_
      · intro l hl H21 s21 Qb qb
        refine ⟨_, rfl, R, rfl, ⟨_, SqL.of (s21 _ _ hR2)⟩, ?_⟩
        refine lcV0 (r0 :: rt) _ (wkL (r0 :: rt) rf) yName (fun x => .bl (decide (l ∈ x.2))) (by omega) (by intro _; rfl) (fun H h => SqL.of (h _ _ (s21 _ _ hR2))) ?_ ?_
        · intro x hx H22 s22 Qe q
          exact ⟨_, rfl, _, rfl, l, x.1, x.2, rfl, rfl, .inr ((s21.trans s22) _ _ (hrc2 x hx)), q _ (Same.refl _)⟩
        · intro D22 H22 _ s22 h22
          exact ⟨D22, Cl, r0 :: rt, fun x => decide (l ∈ x.2), rfl, h22, _, rfl, qb _ s22⟩
      · intro l hl _ H21 s21 Qe q
        exact ⟨_, rfl, q _ (Same.refl _)⟩
      · intro D21 H21 _ s21 h21
        refine ⟨D21, _, rfl, h21, fun q22 hq22 => ⟨q22, _, rfl, upd_same, fun q23 hq23 => ?_⟩⟩
        have mem0 : r0.2 ∈ rws k (as1.map (·.2)) (as2.map (·.2)) := by rw [← err]; exact List.mem_map_of_mem List.mem_cons_self
        have e5 : srt (r0.2.filter fun l => (r0 :: rt).all fun x => decide (l ∈ x.2)) = dueOf ((k : Int) + 1) (bs.map (·.2)) := by
          rw [← rws_sure W B3.ok' mem0, ← err]
          congr 1
          refine List.filter_congr fun l _ => ?_
          rw [List.all_map]; rfl
        refine ⟨ge.trans (s21.trans ((Same.new hq22).trans (Same.new hq23))), .inr ⟨q23, rfl, by rw [← e5]; exact upd_same, fun z => ?_⟩⟩
        have := (rws_nil W B3.ok').mpr z
        rw [this] at mem0
        cases mem0
  rintro sv H21 ⟨s21, hsv⟩
  have s1221 := s1220.trans s21
  have B3' := B3.mono s1221
  apply fork (H0 := H21)
  · intro cont
    refine ⟨_, rfl, ?_⟩
    try unfold tNil
    refine (?_ : sp_sure_literals K [.ref t3] _ _ _)
    refine sure_ask B3' (by omega) fun H22 x s22 hx => ?_
    rcases hsv with ⟨e1, z1⟩ | ⟨qa, e1, h1, z1⟩
    · rcases hx with ⟨e2, z2⟩ | ⟨qb, e2, h2, z2⟩
      · refine .inl ⟨by rw [e2], _, rfl, .inl ⟨by rw [e1], rfl, _, rfl, ?_⟩⟩
        rw [decide_eq_true rfl]
        exact iteF (cont _ s22)
      · exact absurd z1 z2
    · rcases hx with ⟨e2, z2⟩ | ⟨qb, e2, h2, z2⟩
      · exact absurd z2 z1
      · have hd16 : ∀ n ∈ dueOf ((k : Int) + 1) (bs.map (·.2)), -16 ≤ n ∧ n ≤ 16 := fun n hn => by
          have := ((mem_due B3'.ok').mp hn).1
          unfold InR at this; omega
        have hdl : (dueOf ((k : Int) + 1) (bs.map (·.2))).length ≤ 1000 := by
          have := len_lits (many := (k : Int) + 1) (by omega) (pw_nodup (due_pw _ _)) fun l hl => ((mem_due B3'.ok').mp hl).1
          omega
        refine .inr ⟨qb, _, by rw [e2], h2, hd16, hdl, _, rfl, .inr ⟨qa, _, by rw [e1], s22 _ _ h1, hd16, hdl, rfl, _, rfl, ?_⟩⟩
        rw [decide_eq_true rfl]
        exact iteF (cont _ s22)
  intro H23 s23
  have s1223 := s1221.trans s23
  have B1 := B1.mono s1223
  have B2 := B2.mono s1223
  have B3 := B3.mono s1223
  have P23 := P12.same s1223
  have K23 := K12.trans (Ke.same s1223)
  have ht3 := s1223 _ _ ht3
  have hw3 := s1223 _ _ hw3
  clear hsv hRR hrc s1220 s1221 s1217 B3' P12 K12 ht1 ht2 hq1 hq2
  -- either way
  refine ⟨_, rfl, _, rfl, by show 2 ≤ sizeLine; decide, fun a1 ha1 => ⟨_, rfl, _, rfl, _, _, rfl, rfl, by show 2 ≤ sizeLine; decide, fun a2 ha2 => ⟨by show 2 ≤ sizeLine; decide, fun a3 ha3 => ?_⟩⟩⟩
  have g1 := Same.new (o := .tup [.ref t1, .int ((k : Int) + 1)]) ha1
  have g2 := Same.new (o := .tup [.ref t2, .int (0 - ((k : Int) + 1))]) ha2
  have g3 := Same.new (o := .tup [.ref a1, .ref a2]) ha3
  have s2324 := g1.trans (g2.trans g3)
  have hi1 := (g2.trans g3) _ _ (upd_same (H := H23) (a := a1) (o := .tup [.ref t1, .int ((k : Int) + 1)]))
  have hi2 := g3 _ _ (upd_same (H := upd H23 a1 (.tup [.ref t1, .int ((k : Int) + 1)])) (a := a2) (o := .tup [.ref t2, .int (0 - ((k : Int) + 1))]))
  have hi3 : upd (upd (upd H23 a1 (.tup [.ref t1, .int ((k : Int) + 1)])) a2 (.tup [.ref t2, .int (0 - ((k : Int) + 1))])) a3 (.tup [.ref a1, .ref a2]) a3 = some (.tup ([(a1, (t1, (k : Int) + 1)), (a2, (t2, 0 - ((k : Int) + 1)))].map fun x : Addr × (Addr × Int) => V.ref x.1)) := upd_same
  generalize upd (upd (upd H23 a1 (.tup [.ref t1, .int ((k : Int) + 1)])) a2 (.tup [.ref t2, .int (0 - ((k : Int) + 1))])) a3 (.tup [.ref a1, .ref a2]) = H24 at s2324 hi1 hi2 hi3
  have B1 := B1.mono s2324
  have B2 := B2.mono s2324
  have B3 := B3.mono s2324
  have P24 := P23.same s2324
  have K24 := K23.trans (Ke.same s2324)
  have ht3 := s2324 _ _ ht3
  have hw3 := s2324 _ _ hw3
  clear g1 g2 g3 ha1 ha2 ha3 s2324 P23 K23 s23 s21
  have side : ∀ x ∈ [(a1, (t1, (k : Int) + 1)), (a2, (t2, 0 - ((k : Int) + 1)))], H24 x.1 = some (.tup [.ref x.2.1, .int x.2.2]) ∧ ∃ (xs : List Cl) (Y : Cls'), BdS H24 (.ref x.2.1) k xs ∧ xs.length ≤ 12 ∧ Two k x.2.2 (xs.map (·.2)) Y (bs.map (·.2)) := fun x hx => by
    rcases List.mem_cons.mp hx with rfl | hx
    · exact ⟨hi1, as1, _, B1, l1, W⟩
    · rw [List.mem_singleton.mp hx]
      exact ⟨hi2, as2, _, B2, l2, W.symm⟩
  refine ⟨a3, rfl, ⟨_, SqT.of hi3⟩, ?_⟩
  refine forA [(a1, (t1, (k : Int) + 1)), (a2, (t2, 0 - ((k : Int) + 1)))] (fun σ x => (σ.set 8 (some (.ref x.2.1))).set 11 (some (.int x.2.2))) (wkTF _ (fun x : Addr × (Addr × Int) => V.ref x.1) fun x H => H x.1 = some (.tup [.ref x.2.1, .int x.2.2])) (fun σ => yTup (t := fun x : Addr × (Addr × Int) => x.1) fun _ => rfl)
    (fun don σ H => ∃ y8 y11 y12 y13 y15 y16 y17, σ = [some (.ref p), some (.int k), some (.ref t1), some (.ref t2), some (.int ((k : Int) + 1)), some (.ref t3), some (.ref D17), none, y8, some (.ref R), some sv, y11, y12, y13, none, y15, y16, y17] ∧ Ke p H24 H ∧ Pot H p (n + (5000 - 1000 * don.length)))
    ⟨none, none, none, none, none, none, none, rfl, Ke.refl _ _, P24.less (by simp)⟩ (fun l σ H ⟨_, _, _, _, _, _, _, _, K, _⟩ => ⟨SqT.of (K.tup P24 hi3), fun x hx => K.tup P24 (side x hx).1⟩) ?_ ?_
  · rintro don x r σ H25 H26 e ⟨y8, y11, y12, y13, y15, y16, y17, rfl, K25, P25⟩ s26
    have hx : x ∈ [(a1, (t1, (k : Int) + 1)), (a2, (t2, 0 - ((k : Int) + 1)))] := by rw [e]; exact List.mem_append_right _ List.mem_cons_self
    obtain ⟨_, xs, Y, BX, xl, WX⟩ := side x hx
    have dl : don.length < 2 := by
      have := congrArg List.length e
      simp only [List.length_append, List.length_cons, List.length_nil] at this
      omega
    have K26 : Ke p H24 H26 := K25.trans (Ke.same s26)
    have P26 := P25.same s26
    -- a drawn lot
    refine ⟨_, rfl, _, rfl, _, _, rfl, rfl, _, _, rfl, rfl, RgOk.of_le (by decide) (by omega) (by decide) (by omega), fun L0 hL0 => ?_⟩
    have hPn : ∀ {H : Hp} {n : Nat}, Pot H p n → H p ≠ none := fun h => by
      obtain ⟨a, b, c, hp, _⟩ := h
      rw [hp]
      exact fun z => nomatch z
    have hLp : L0 ≠ p := fun z => hPn P26 (z ▸ hL0)
    have g7 := Same.new (o := .lst (rgV 1 ((k : Int) + 1))) hL0
    refine ⟨_, rfl, _, rfl, _, _, rfl, _, _, rfl, rfl, p, ((if (2 : Int) < (k : Int) then 2 else (k : Int)) + 1), n + (5000 - 1000 * don.length) - 1, rfl, (P26.same g7).less (by omega), (by split <;> omega), (by split <;> omega), fun H28 e28 K28 P28 e0 e1 => ?_⟩
    obtain ⟨E, rfl⟩ : ∃ E : Nat, e28 = E := ⟨e28.toNat, (Int.toNat_of_nonneg e0).symm⟩
    have hEk : E ≤ k ∧ E ≤ 2 := by split at e1 <;> omega
    have hxs : rgV 1 ((k : Int) + 1) = ((List.range (D + 1)).map fun i => (1 : Int) + (i : Nat)).map V.int := by
      unfold rgV
      rw [show ((k : Int) + 1 - 1).toNat = D + 1 by omega, List.map_map]
      rfl
    have hL8 : H28 L0 = some (.lst (((List.range (D + 1)).map fun i => (1 : Int) + (i : Nat)).map V.int)) := by
      rw [← hxs]
      exact K28 _ _ hLp upd_same
    refine ⟨p, L0, _, E, n + (5000 - 1000 * don.length) - 100, rfl, P28.less (by omega), hL8, by rw [List.length_map, List.length_map, List.length_range]; omega, by rw [List.length_map, List.length_map, List.length_range]; omega, fun H6 q ys K6 P6 hq0 hq ⟨rest, hpm⟩ hyl => ?_⟩
    obtain ⟨ms, rs, rfl, hms⟩ := perm_ints hpm
    rw [List.length_map] at hyl
    have hqp : q ≠ p := fun z => by
      obtain ⟨a, b, c, hp, _⟩ := P28
      rw [← z, hq0] at hp
      cases hp
    have K246 : Ke p H24 H6 := K26.trans ((Ke.same g7).trans (K28.trans K6))
    obtain ⟨N6, hN6⟩ : ∃ N6, N6 = n + (5000 - 1000 * don.length) - 100 := ⟨_, rfl⟩
    rw [← hN6] at P6
    refine ⟨_, rfl, q, rfl, ⟨_, SqL.of hq⟩, ?_⟩
    refine lcG ms V.int (wkL ms V.int) (fun l ys H => ∃ ds : List Int, Ke p H6 H ∧ Pot H p (N6 - l.length) ∧ ys = ds.map V.int ∧ ds.map ab = l.map ab) (by omega) (by intro _; rfl) (fun D0 hD => ⟨[], Ke.new hD, P6.same (Same.new hD), rfl, rfl⟩) (fun l ys H ⟨ds, q1, _⟩ => SqL.of (q1 _ _ hqp hq)) ?_ ?_
    · rintro D0 l a r ys H7 eq hD0 ⟨ds, K7, P7, rfl, hds⟩ hD7 Qe qe
      have hDp : D0 ≠ p := fun z => by
        obtain ⟨a, b, c, hp, _⟩ := P6
        rw [← z, hD0] at hp
        cases hp
      have hlm : l.length < ms.length := by
        have := congrArg List.length eq
        rw [List.length_append, List.length_cons] at this
        omega
      refine ⟨_, rfl, .inl ⟨_, rfl, _, rfl, _, rfl, by show 2 ≤ sizeLine; decide, fun L1 hL1 => ?_⟩⟩
      have g7 := Same.new (o := .lst [.int 1, .int (-1)]) hL1
      have hL1p : L1 ≠ p := fun z => by
        obtain ⟨a, b, c, hp, _⟩ := P7
        rw [← z, hL1] at hp
        cases hp
      refine ⟨p, L1, [.int 1, .int (-1)], N6 - (l.length + 1), rfl, (P7.same g7).less (by omega), upd_same, hL1p, (fun z => nomatch z), (by decide), fun H8 y K8 P8 hy => ?_⟩
      have am : a ∈ ms := by rw [eq]; exact List.mem_append_right _ List.mem_cons_self
      obtain ⟨i, hi0, hi1⟩ := List.mem_map.mp (hms.mem_iff.mp (List.mem_append_left _ am))
      have hi2 := List.mem_range.mp hi0
      have fin : ∀ s : Int, s = 1 ∨ s = -1 → ∃ (i j : Int), V.int a = V.int i ∧ V.int s = V.int j ∧ CMulW i j ∧ Qe (V.int (i * j)) H8 := by
        intro s hs
        refine ⟨_, _, rfl, rfl, wide_mul (a := 20) (b := 20) (by show _ < 1048576; omega) (by show _ < 1048576; omega) (by decide) (by decide) (by decide), ?_⟩
        have hD8 : H8 D0 = some (.lst (ds.map V.int)) := K8 _ _ hDp (g7 _ _ hD7)
        refine qe _ H8 hD8 ⟨ds ++ [a * s], ?_, ?_, by rw [List.map_append]; rfl, ?_⟩
        · exact fun y o ny ey => by rw [upd_ne (ne_of_none ey hD0)]; exact (K7.trans ((Ke.same g7).trans K8)) y o ny ey
        · rw [List.length_append]
          obtain ⟨a2, b2, c2, q1, q2⟩ := P8
          exact ⟨a2, b2, c2, by rw [upd_ne hDp.symm]; exact q1, q2⟩
        · rw [List.map_append, List.map_append, hds]
          have z : ab (a * s) = ab a := by rcases hs with rfl | rfl <;> unfold ab <;> (repeat' split) <;> omega
          rw [List.map_cons, List.map_cons, z]
          all_goals rfl
      rcases List.mem_cons.mp hy with rfl | hy
      · exact fin 1 (.inl rfl)
      · rcases List.mem_cons.mp hy with rfl | hy
        · exact fin (-1) (.inr rfl)
        · exact nomatch hy
    · rintro D0 ys H7 hD0 ⟨ds, K7, P7, rfl, hds⟩ hD7
      refine ⟨D0, ds, rfl, hD7, fun q8 hq8 => ⟨q8, _, rfl, upd_same, fun gv hgv => ?_⟩⟩
      have g8 := Same.new (o := .lst ((srt ds).map V.int)) hq8
      have g9 := Same.new (o := .tup ((srt ds).map V.int)) hgv
      have K9 : Ke p H24 (upd (upd H7 q8 (.lst ((srt ds).map V.int))) gv (.tup ((srt ds).map V.int))) := K246.trans (K7.trans (Ke.same (g8.trans g9)))
      have P9 := P7.same (g8.trans g9)
      have hg9 : upd (upd H7 q8 (.lst ((srt ds).map V.int))) gv (.tup ((srt ds).map V.int)) gv = some (.tup ((srt ds).map V.int)) := upd_same
      generalize upd (upd H7 q8 (.lst ((srt ds).map V.int))) gv (.tup ((srt ds).map V.int)) = H9 at K9 P9 hg9
      have gcl : isCl k (srt ds) = true := by
        have := draw_cl hms hds
        rwa [hkz] at this
      have dsl : (srt ds).length ≤ 2 := by
        rw [(srt_perm ds).length_eq]
        have := congrArg List.length hds
        rw [List.length_map, List.length_map] at this
        omega
      obtain ⟨gs, hgs⟩ : ∃ gs, gs = srt ds := ⟨_, rfl⟩
      rw [← hgs] at hg9 gcl dsl
      have gin := (isCl_iff.mp gcl).1
      have BX9 := BX.ke K9 P24
      have B39 := B3.ke K9 P24
      -- by units
      refine ⟨_, rfl, _, rfl, ?_⟩
      try unfold tNil
      refine (?_ : sp_units_told K [.ref x.2.1, .ref gv] _ _ _)
      refine told_ask BX9 hg9 gcl fun H10 t10 b10 st1 xs1 s10 ht10 hb10 U1 => ?_
      refine ⟨_, rfl, _, rfl, _, rfl, by show 1 ≤ sizeLine; decide, fun t11 ht11 => ?_⟩
      have g11 := Same.new (o := .tup [.int x.2.2]) ht11
      refine ⟨gv, t11, _, _, rfl, rfl, (s10.trans g11) _ _ hg9, upd_same, by rw [List.length_map]; show _ + 1 ≤ _; omega, fun c12 H12 s12 hc12 => ?_⟩
      refine ⟨c12, gs ++ [x.2.2], rfl, by rw [List.map_append]; exact hc12, fun q13 hq13 => ⟨q13, _, rfl, upd_same, fun q14 hq14 => ?_⟩⟩
      have g13 := Same.new (o := .lst ((srt (gs ++ [x.2.2])).map V.int)) hq13
      have g14 := Same.new (o := .tup ((srt (gs ++ [x.2.2])).map V.int)) hq14
      have s1014 := g11.trans (s12.trans (g13.trans g14))
      refine (?_ : sp_units_told K [.ref t3, .ref q14] _ _ _)
      refine told_ask (gs := wl x.2.2 gs) (B39.mono (s10.trans s1014)) upd_same (wl_cl WX.at_ gcl) fun H15 t15 b15 st2 xs2 s15 ht15 hb15 U2 => ⟨_, _, rfl, ?_⟩
      have s915 := s10.trans (s1014.trans s15)
      have ht10' := (s1014.trans s15) _ _ ht10
      have hb10' := (s1014.trans s15) _ _ hb10
      have UU := WX.told gin U1 U2
      apply fork (H0 := H15)
      · intro cont
        rcases UU with ⟨rfl, rfl, e2⟩ | ⟨rfl, rfl⟩
        · refine ⟨_, rfl, t10, _, _, _, rfl, rfl, ht10', rfl, _, rfl, t15, _, _, _, rfl, rfl, ht15, rfl, rfl, _, rfl, iteF ?_⟩
          refine ⟨_, rfl, t10, _, _, _, rfl, rfl, ht10', rfl, rfl, _, rfl, iteT ?_⟩
          refine ⟨_, rfl, t15, _, _, _, rfl, rfl, ht15, rfl, _, rfl, t10, _, _, _, rfl, rfl, ht10', rfl, _, rfl, by show 1 ≤ sizeLine; decide, fun t16 ht16 => ?_⟩
          have g16 := Same.new (o := .tup [.int x.2.2]) ht16
          have xl1 : xs1.length ≤ 100 := by
            obtain ⟨S, ⟨R1, _, rfl⟩ | ⟨c, R1, z, _⟩⟩ := U1
            · rw [(srt_perm S).length_eq]
              have := len_lits (many := (k : Int)) (by omega) R1.nd fun l hl => (R1.der l hl).inr WX.inx gin
              omega
            · exact absurd z (by decide)
          refine ⟨b10, t16, _, _, rfl, rfl, g16 _ _ hb10', upd_same, by rw [List.length_map]; show _ + 1 ≤ _; omega, fun c17 H17 s17 hc17 => ?_⟩
          refine ⟨c17, xs1 ++ [x.2.2], rfl, by rw [List.map_append]; exact hc17, fun q18 hq18 => ⟨q18, _, rfl, upd_same, fun q19 hq19 => ?_⟩⟩
          have s1519 := g16.trans (s17.trans ((Same.new (o := .lst ((srt (xs1 ++ [x.2.2])).map V.int)) hq18).trans (Same.new (o := .tup ((srt (xs1 ++ [x.2.2])).map V.int)) hq19)))
          refine ⟨b15, q19, xs2, _, rfl, rfl, s1519 _ _ hb15, upd_same, _, rfl, ?_⟩
          rw [decide_eq_true (show xs2 = srt (xs1 ++ [x.2.2]) from e2)]
          exact iteF (cont _ s1519)
        · refine ⟨_, rfl, t10, _, _, _, rfl, rfl, ht10', rfl, _, rfl, t15, _, _, _, rfl, rfl, ht15, rfl, rfl, _, rfl, iteF ?_⟩
          refine ⟨_, rfl, t10, _, _, _, rfl, rfl, ht10', rfl, rfl, _, rfl, iteF (iteF ?_)⟩
          exact cont _ (Same.refl _)
      intro H20 s20
      have s920 := s915.trans s20
      have ht3' := s920 _ _ (K9.tup P24 ht3)
      have hw3' := s920 _ _ (K9.tup P24 hw3)
      have B320 := B39.mono s920
      have BX20 := BX9.mono s920
      refine ⟨_, rfl, _, rfl, t3, _, _, _, rfl, rfl, ht3', rfl, _, rfl, by show 1 ≤ sizeLine; decide, fun t21 ht21 => ⟨by show 1 ≤ sizeLine; decide, fun t22 ht22 => ?_⟩⟩
      have g21 := Same.new (o := .tup [.int x.2.2]) ht21
      have g22 := Same.new (o := .tup [.ref t21]) ht22
      refine ⟨w3, t22, _, _, rfl, rfl, (g21.trans g22) _ _ hw3', upd_same, by rw [List.length_map]; show _ + 1 ≤ _; omega, fun c23 H23' s23' hc23 => ⟨by show 2 ≤ sizeLine; decide, fun t24 ht24 => ?_⟩⟩
      have g24 := Same.new (o := .tup [.int ((k : Int) + 1), .ref c23]) ht24
      have s2024 := g21.trans (g22.trans (s23'.trans g24))
      have BF : BdS (upd H23' t24 (.tup [.int ((k : Int) + 1), .ref c23])) (.ref t24) ((k : Int) + 1) (bs ++ [(t21, [x.2.2])]) := by
        refine ⟨⟨⟨t24, c23, rfl, upd_same, by rw [List.map_append]; exact g24 _ _ hc23⟩, fun z hz => ?_⟩, by omega, by omega, fun z hz => ?_, by rw [List.length_append]; show _ + 1 ≤ _; omega⟩
        · rcases List.mem_append.mp hz with hz | hz
          · exact s2024 _ _ (B320.bd.cls z hz)
          · rw [List.mem_singleton.mp hz]
            exact (g22.trans (s23'.trans g24)) _ _ upd_same
        · rcases List.mem_append.mp hz with hz | hz
          · exact bcl z hz
          · rw [List.mem_singleton.mp hz]
            refine isCl_one ?_
            have h1 := WX.at_
            unfold ab at h1
            unfold InR
            split at h1 <;> omega
      refine ⟨_, rfl, .ref t24, _, _, rfl, BF, c256 _ _ (by omega), fun H25' s25' => ?_⟩
      refine ⟨_, rfl, .ref x.2.1, _, xs, rfl, (BX20.mono s2024).mono s25', c256 _ _ (by omega), fun H26' s26' => ⟨rfl, _, rfl, ?_⟩⟩
      have ecn : cnt ((k : Int) + 1) ((bs ++ [(t21, [x.2.2])]).map (·.2)) = cnt k (xs.map (·.2)) := by
        rw [List.map_append]
        exact WX.given
      rw [ecn, decide_eq_true rfl]
      refine iteF ?_
      refine ⟨_, _, _, _, _, _, _, rfl, K9.trans (Ke.same (s920.trans (s2024.trans (s25'.trans s26')))), ?_⟩
      refine (P9.same (s920.trans (s2024.trans (s25'.trans s26')))).less ?_
      rw [List.length_append]
      show n + (5000 - 1000 * (don.length + 1)) ≤ _
      omega
  · rintro σ H27 ⟨y8, y11, y12, y13, y15, y16, y17, rfl, K27, P27⟩
    refine ⟨_, rfl, _, rfl, _, rfl, _, rfl, .ref t1, .ref t2, .ref t3, k, as1, as2, bs, rfl, B1.ke K27 P24, B2.ke K27 P24, B3.ke K27 P24, by omega, by omega, l1, l2, eb, fun H28 s28 => ?_⟩
    exact kk _ (K24.trans (K27.trans (Ke.same s28))) ((P27.same s28).less (by omega))
end
end Nt
set_option maxRecDepth 100000
set_option maxHeartbeats 1000000
/-! NtJ3: one bundle or the other: papers and chains, plain. -/
namespace Nt
open PySem PySem.Spec PyProof.Rows L2
theorem Two.vals {k : Nat} {t : Int} {X Y B : Cls'} (W : Two k t X Y B) {ys : List Int} (V : ValsOk k X ys) : (isVal ((k : Int) + 1) (ys ++ [t]) && doHold B (ys ++ [t])) = true := by
  rw [Bool.and_eq_true]
  constructor
  · have h := isVal_of (k := k + 1) (w := ys ++ [t]) (by
      rw [List.map_append, nums_succ, isVal_iff V.val]
      show nums (k : Int).toNat ++ [ab t] = _
      rw [W.at_]; rfl)
    rw [show ((k : Int) + 1) = ((k + 1 : Nat) : Int) by omega]; exact h
  · refine List.all_eq_true.mpr fun d hd => ?_
    rcases W.all d hd with ⟨c, hc, rfl⟩ | ⟨c, hc, rfl⟩
    · obtain ⟨l, h1, h2⟩ := V.holds c hc
      exact List.any_eq_true.mpr ⟨l, mem_wl.mpr (.inl h1), decide_eq_true (List.mem_append_left _ h2)⟩
    · exact List.any_eq_true.mpr ⟨t, mem_wl.mpr (.inr rfl), decide_eq_true (List.mem_append_right _ List.mem_cons_self)⟩
theorem rup_add {cs ds : Cls'} {t : Int} (h : ∀ c ∈ cs, wl t c ∈ ds) {c : List Int} (r : Rup cs c) : Rup ds (wl t c) := by
  unfold Rup at r ⊢
  have gt : ∀ {l : Int}, l = t → Der ds ((wl t c).map fun l => -l) (-l) := fun e => .given (List.mem_map.mpr ⟨_, mem_wl.mpr (.inr e), rfl⟩)
  have key : ∀ l, Der cs (c.map fun l => -l) l → Der ds ((wl t c).map fun l => -l) l := by
    intro l d
    induction d with
    | given h =>
      obtain ⟨y, hy, rfl⟩ := List.mem_map.mp h
      exact .given (List.mem_map.mpr ⟨y, mem_wl.mpr (.inl hy), rfl⟩)
    | unit hc m o ih =>
      exact .unit (h _ hc) (mem_wl.mpr (.inl m)) fun y hy ne => (mem_wl.mp hy).elim (fun hy => ih y hy ne) gt
  rcases r with ⟨x, hc, hx⟩ | ⟨g, hg, hx⟩
  · exact .inl ⟨_, h x hc, fun y hy => (mem_wl.mp hy).elim (fun hy => key _ (hx y hy)) gt⟩
  · obtain ⟨y, hy, rfl⟩ := List.mem_map.mp hg
    exact .inr ⟨-y, List.mem_map.mpr ⟨y, mem_wl.mpr (.inl hy), rfl⟩, key _ hx⟩
theorem steps_add {t : Int} : ∀ {ps cs ds : Cls'}, (∀ c ∈ cs, wl t c ∈ ds) → Steps cs ps → Steps ds (ps.map (wl t))
  | [], _, _, _, _ => trivial
  | c :: r, cs, ds, h, s => ⟨rup_add h s.1, steps_add (fun x hx => (List.mem_append.mp hx).elim (fun z => List.mem_append_left _ (h x z)) fun z => by rw [List.mem_singleton.mp z]; exact List.mem_append_right _ List.mem_cons_self) s.2⟩
theorem wl_nil (t : Int) : wl t [] = [t] := (srt_one (List.Perm.refl _) (List.pairwise_singleton _ _)).symm
theorem paper_join {k : Nat} {X Y B ps qs : Cls'} (W : Two k ((k : Int) + 1) X Y B) (P : PaperOk k X ps) (Q : PaperOk k Y qs) : IsPaper ((k : Int) + 1) B (ps.map (wl (0 - ((k : Int) + 1))) ++ qs.map (wl ((k : Int) + 1)) ++ [[]]) := by
  refine ⟨⟨_, rfl⟩, fun c hc => ?_, ?_⟩
  · rcases List.mem_append.mp hc with hc | hc
    · rcases List.mem_append.mp hc with hc | hc
      · obtain ⟨x, hx, rfl⟩ := List.mem_map.mp hc
        exact wl_cl W.symm.at_ (P.cl x hx)
      · obtain ⟨x, hx, rfl⟩ := List.mem_map.mp hc
        exact wl_cl W.at_ (Q.cl x hx)
    · rw [List.mem_singleton.mp hc]; rfl
  · refine Steps.app (Steps.app (steps_add W.x P.steps) ((steps_add W.y Q.steps).mono fun c hc => List.mem_append_left _ hc)) ⟨clash_two (p := (k : Int) + 1) (k := 0 - ((k : Int) + 1)) (by omega) ?_ ?_, trivial⟩
    · obtain ⟨us, e⟩ := Q.last
      exact List.mem_append_right _ (List.mem_append_right _ (List.mem_map.mpr ⟨[], by rw [e]; exact List.mem_append_right _ List.mem_cons_self, wl_nil _⟩))
    · obtain ⟨us, e⟩ := P.last
      exact List.mem_append_right _ (List.mem_append_left _ (List.mem_map.mpr ⟨[], by rw [e]; exact List.mem_append_right _ List.mem_cons_self, wl_nil _⟩))
theorem paper_less {k : Nat} {X Y B ps qs : Cls'} (Q : PaperOk k Y qs) : ¬ IsPaper ((k : Int) + 1) B (ps.map (wl (0 - ((k : Int) + 1))) ++ qs.map (wl ((k : Int) + 1))) := by
  rintro ⟨⟨us, e⟩, _, _⟩
  obtain ⟨vs, e2⟩ := Q.last
  rw [e2, List.map_append, ← List.append_assoc] at e
  have h := List.append_inj_right' e rfl
  have : ([wl ((k : Int) + 1) []] : Cls') = [[]] := h
  rw [wl_nil] at this
  cases this
/-! ### chains -/
theorem met_wl {k : Nat} {t : Int} (ht : ab t = (k : Int) + 1) {a b r : List Int} (ha : isCl k a = true) (hb : isCl k b = true) (h : metBy a b = some r) : metBy (wl t a) (wl t b) = some (wl t r) := by
  obtain ⟨a1, a2⟩ := isCl_iff.mp ha
  obtain ⟨b1, b2⟩ := isCl_iff.mp hb
  have t0 : t ≠ 0 := fun z => by rw [z] at ht; unfold ab at ht; simp at ht; omega
  have fr : ∀ {l : Int}, InR k l → l ≠ t ∧ 0 - l ≠ t := fun {l} h => by
    have h2 := ab_in h
    refine ⟨fun z => ?_, fun z => ?_⟩
    · rw [z, ht] at h2; omega
    · rw [← ab_neg, ← Int.zero_sub, z, ht] at h2; omega
  have ta : t ∉ a := fun z => (fr (a1 t z)).1 rfl
  have tb : t ∉ b := fun z => (fr (b1 t z)).1 rfl
  unfold metBy at h
  split at h
  · rename_i x hx
    have hxm : x ∈ contr a b := by rw [hx]; exact List.mem_cons_self
    obtain ⟨xa, xb⟩ := List.mem_filter.mp hxm
    have xb := of_decide_eq_true xb
    have xt := fr (a1 x xa)
    have e1 : contr (wl t a) (wl t b) = [x] := by
      refine pw_unique ((wl_pw (pw_nodup a2) ta).sublist List.filter_sublist) (List.pairwise_singleton _ _) fun l => ?_
      unfold contr
      rw [List.mem_filter, decide_eq_true_iff, mem_wl, mem_wl, ← hx]
      unfold contr
      rw [List.mem_filter, decide_eq_true_iff]
      constructor
      · rintro ⟨h1 | h1, h2 | h2⟩
        · exact ⟨h1, h2⟩
        · exact absurd h2 (fr (a1 l h1)).2
        · rw [h1] at h2
          exact absurd (show 0 - (0 - t) = t by omega) (fr (b1 _ h2)).2
        · omega
      · rintro ⟨h1, h2⟩
        exact ⟨.inl h1, .inl h2⟩
    cases h
    unfold metBy
    rw [e1]
    refine congrArg some (pw_unique (sset_pw _) (wl_pw (pw_nodup (sset_pw _)) fun z => ?_) fun l => ?_)
    · rcases List.mem_append.mp (mem_sset.mp z) with z | z
      · exact ta (List.mem_filter.mp z).1
      · exact tb (List.mem_filter.mp z).1
    · rw [mem_sset, mem_wl, mem_sset]
      simp only [List.mem_append, List.mem_filter, mem_wl, Bool.not_eq_true', decide_eq_false_iff_not]
      constructor
      · rintro (⟨h1 | h1, h2⟩ | ⟨h1 | h1, h2⟩)
        · exact .inl (.inl ⟨h1, h2⟩)
        · exact .inr h1
        · exact .inl (.inr ⟨h1, h2⟩)
        · exact .inr h1
      · rintro ((⟨h1, h2⟩ | ⟨h1, h2⟩) | h1)
        · exact .inl ⟨.inl h1, h2⟩
        · exact .inr ⟨.inl h1, h2⟩
        · exact .inl ⟨.inr h1, fun z => xt.1 (z ▸ h1 ▸ rfl)⟩
  · cases h
theorem got_wl {k : Nat} {t : Int} (ht : ab t = (k : Int) + 1) {Kn Wn : Cls'} {ρ : Int → Int} (hk : ∀ c ∈ Kn, isCl k c = true) {ps : List Int} (hρ : ∀ p ∈ ps, ∀ y, atI Kn p = some y → atI Wn (ρ p) = some (wl t y)) {c : List Int} (h : gotBy Kn ps = some c) : gotBy Wn (ps.map ρ) = some (wl t c) := by
  have mem : ∀ {p : Int} {y : List Int}, atI Kn p = some y → isCl k y = true := fun {p y} e => by
    unfold atI at e
    cases q : ixN Kn.length p with
    | none => rw [q] at e; cases e
    | some j => rw [q] at e; exact hk y (List.mem_of_getElem? e)
  have go : ∀ (r : List Int) (x : List Int), (∀ p ∈ r, p ∈ ps) → isCl k x = true → r.foldl (gstep Kn) (some x) = some c → (r.map ρ).foldl (gstep Wn) (some (wl t x)) = some (wl t c) := by
    intro r
    induction r with
    | nil =>
      intro x _ _ h
      cases h
      rfl
    | cons a r ih =>
      intro x hm hx h
      have h : r.foldl (gstep Kn) ((atI Kn a).bind fun y => metBy x y) = some c := h
      cases e : atI Kn a with
      | none => rw [e] at h; rw [show (none.bind fun y => metBy x y) = (none : Option (List Int)) from rfl, gstep_none] at h; cases h
      | some y =>
        rw [e] at h
        have h : r.foldl (gstep Kn) (metBy x y) = some c := h
        cases em : metBy x y with
        | none => rw [em, gstep_none] at h; cases h
        | some z =>
          rw [em] at h
          show (r.map ρ).foldl (gstep Wn) ((atI Wn (ρ a)).bind fun y => metBy (wl t x) y) = _
          rw [hρ a (hm a List.mem_cons_self) y e]
          show (r.map ρ).foldl (gstep Wn) (metBy (wl t x) (wl t y)) = _
          rw [met_wl ht hx (mem e) em]
          exact ih z (fun p hp => hm p (List.mem_cons_of_mem _ hp)) (metBy_cl hx (mem e) em) h
  match ps, h, hρ, go with
  | p0 :: r, h, hρ, go =>
    have h : r.foldl (gstep Kn) (atI Kn p0) = some c := h
    cases e : atI Kn p0 with
    | none => rw [e, gstep_none] at h; cases h
    | some x =>
      rw [e] at h
      show (r.map ρ).foldl (gstep Wn) (atI Wn (ρ p0)) = _
      rw [hρ p0 List.mem_cons_self x e]
      exact go r x (fun p hp => List.mem_cons_of_mem _ hp) (mem e) h
theorem linksOk_app {many : Int} : ∀ {xs ys : List (List Int × List Int)} {known : Cls'}, linksOk many known xs → linksOk many (known ++ xs.map (·.1)) ys → linksOk many known (xs ++ ys)
  | [], ys, known, _, h => by rw [List.map_nil, List.append_nil] at h; exact h
  | x :: r, ys, known, h, k => ⟨h.1, linksOk_app h.2 (by rw [List.append_assoc]; exact k)⟩
theorem linksOk_of {many : Int} : ∀ {L : List (List Int × List Int)} {known : Cls'}, (∀ l x r, L = l ++ x :: r → linkOk many (known ++ l.map (·.1)) x.1 x.2 = true) → linksOk many known L
  | [], _, _ => trivial
  | x :: r, known, h => ⟨by have := h [] x r rfl; rwa [List.map_nil, List.append_nil] at this, linksOk_of fun l y r2 e => by
      have := h (x :: l) y r2 (by rw [e]; rfl)
      rw [List.append_assoc]; exact this⟩
theorem atI_some {α : Type} {xs : List α} {i : Int} (h0 : 0 ≤ i) {y : α} : atI xs i = some y ↔ xs[i.toNat]? = some y := by
  constructor
  · intro h
    unfold atI ixN at h
    rw [if_pos h0] at h
    split at h
    · exact h
    · cases h
  · intro h
    have := atI_nat (j := i.toNat) h
    rwa [Int.toNat_of_nonneg h0] at this
theorem linksOk_pre {many : Int} : ∀ {l r : List (List Int × List Int)} {known : Cls'}, linksOk many known (l ++ r) → linksOk many known l
  | [], _, _, _ => trivial
  | _ :: _, _, _, h => ⟨h.1, linksOk_pre h.2⟩
/-- a chain told anew: each clause with t, each place moved -/
theorem links_wl {k : Nat} {t : Int} (ht : ab t = (k : Int) + 1) {cs ds : Cls'} {ρ : Int → Int} (hk : ∀ c ∈ cs, isCl k c = true) {ls : List (List Int × List Int)} (h : linksOk k cs ls)
    (hat : ∀ (l : List (List Int × List Int)) (p : Int) (y : List Int), (∃ r, ls = l ++ r) → 0 ≤ p → (cs ++ l.map (·.1))[p.toNat]? = some y → 0 ≤ ρ p ∧ (ds ++ l.map (fun x => wl t x.1))[(ρ p).toNat]? = some (wl t y)) :
    linksOk ((k : Int) + 1) ds (ls.map fun x => (wl t x.1, x.2.map ρ)) := by
  refine linksOk_of fun l' x' r' e => ?_
  obtain ⟨l, s, e1, e2, e3⟩ := List.map_eq_append_iff.mp e
  obtain ⟨x, r, e4, e5, e6⟩ := List.map_eq_cons_iff.mp e3
  subst e4
  rw [e1] at h
  have hl := linksOk_at h
  have hpre : linksOk k cs l := linksOk_pre h
  unfold linkOk at hl ⊢
  simp only [Bool.and_eq_true, decide_eq_true_eq] at hl ⊢
  obtain ⟨⟨⟨o1, o2⟩, o3⟩, o4⟩ := hl
  have el : l'.map (·.1) = l.map fun x => wl t x.1 := by rw [← e2, List.map_map]; rfl
  rw [← e5, el]
  have hkn : ∀ c ∈ cs ++ l.map (·.1), isCl k c = true := by
    intro c hc
    rcases List.mem_append.mp hc with hc | hc
    · exact hk c hc
    · obtain ⟨z, hz, rfl⟩ := List.mem_map.mp hc
      obtain ⟨d1, d2, ed⟩ := List.append_of_mem hz
      rw [ed] at hpre
      have := linksOk_at hpre
      unfold linkOk at this
      simp only [Bool.and_eq_true] at this
      exact this.1.1.1
  have o3 := List.all_eq_true.mp o3
  have hρ : ∀ p ∈ x.2, ∀ y, atI (cs ++ l.map (·.1)) p = some y → 0 ≤ ρ p ∧ atI (ds ++ l.map fun x => wl t x.1) (ρ p) = some (wl t y) := fun p hp y hy => by
    have h3 := o3 p hp
    simp only [Bool.and_eq_true, decide_eq_true_eq] at h3
    obtain ⟨h4, h5⟩ := hat l p y ⟨_, e1⟩ h3.1 ((atI_some h3.1).mp hy)
    exact ⟨h4, (atI_some h4).mpr h5⟩
  refine ⟨⟨⟨wl_cl ht o1, by simpa using o2⟩, List.all_eq_true.mpr fun q hq => ?_⟩, got_wl ht hkn (fun p hp y hy => (hρ p hp y hy).2) o4⟩
  obtain ⟨p, hp, rfl⟩ := List.mem_map.mp hq
  have h3 := o3 p hp
  simp only [Bool.and_eq_true, decide_eq_true_eq] at h3 ⊢
  obtain ⟨y, hy⟩ : ∃ y, (cs ++ l.map (·.1))[p.toNat]? = some y := ⟨_, List.getElem?_eq_getElem (by omega)⟩
  obtain ⟨h4, h5⟩ := hat l p y ⟨_, e1⟩ h3.1 hy
  have := (List.getElem?_eq_some_iff.mp h5).1
  omega
def ro1 (f m p : Int) : Int := if p < f then p else p + m
def ro2 (f m st p : Int) : Int := if p < m then p + f else p - m + st
def joined (t : Int) (f m : Int) (L1 L2 : List (List Int × List Int)) : List (List Int × List Int) :=
  L1.map (fun x => (wl (0 - t) x.1, x.2.map (ro1 f m))) ++ L2.map (fun x => (wl t x.1, x.2.map (ro2 f m (f + m + (L1.length : Int))))) ++ [([], [f + m + (L1.length : Int) - 1, f + m + ((L1.length + L2.length : Nat) : Int) - 1])]
theorem last_at {α : Type} {xs : List α} {y : α} (h : xs.getLast? = some y) : 0 < xs.length ∧ xs[xs.length - 1]? = some y := by
  rw [List.getLast?_eq_getElem?] at h
  have := (List.getElem?_eq_some_iff.mp h).1
  exact ⟨by omega, h⟩
theorem chain_join {k : Nat} {X Y B : Cls'} (W : Two k ((k : Int) + 1) X Y B) (eB : B = X.map (wl (0 - ((k : Int) + 1))) ++ Y.map (wl ((k : Int) + 1))) (hX : ∀ c ∈ X, isCl k c = true) (hY : ∀ c ∈ Y, isCl k c = true) {L1 L2 : List (List Int × List Int)}
    (h1 : linksOk k X L1) (e1 : (X ++ L1.map (·.1)).getLast? = some []) (n1 : L1 ≠ []) (h2 : linksOk k Y L2) (e2 : (Y ++ L2.map (·.1)).getLast? = some []) (n2 : L2 ≠ []) :
    linksOk ((k : Int) + 1) B (joined ((k : Int) + 1) X.length Y.length L1 L2) := by
  have bl : B.length = X.length + Y.length := by rw [eB, List.length_append, List.length_map, List.length_map]
  have l1p : 0 < L1.length := List.length_pos_iff.mpr n1
  have l2p : 0 < L2.length := List.length_pos_iff.mpr n2
  have A := links_wl (t := 0 - ((k : Int) + 1)) (ds := B) (ρ := ro1 X.length Y.length) W.symm.at_ hX h1 (by
    rintro l p y ⟨r, e⟩ h0 hy
    unfold ro1
    by_cases q : p < (X.length : Int)
    · rw [if_pos q]
      refine ⟨h0, ?_⟩
      rw [List.getElem?_append_left (by omega)] at hy
      rw [List.getElem?_append_left (by omega), eB, List.getElem?_append_left (by rw [List.length_map]; omega), List.getElem?_map, hy]
      rfl
    · rw [if_neg q]
      refine ⟨by omega, ?_⟩
      rw [List.getElem?_append_right (by omega), List.getElem?_map] at hy
      rw [List.getElem?_append_right (by omega), List.getElem?_map, show (p + (Y.length : Int)).toNat - B.length = p.toNat - X.length by omega]
      obtain ⟨z, hz, rfl⟩ := Option.map_eq_some_iff.mp hy
      rw [hz]; rfl)
  have eA : (L1.map (fun x => (wl (0 - ((k : Int) + 1)) x.1, x.2.map (ro1 X.length Y.length)))).map (·.1) = L1.map fun x => wl (0 - ((k : Int) + 1)) x.1 := by rw [List.map_map]; rfl
  have dl : (B ++ L1.map fun x => wl (0 - ((k : Int) + 1)) x.1).length = X.length + Y.length + L1.length := by rw [List.length_append, List.length_map, bl]
  have C := links_wl (t := (k : Int) + 1) (ds := B ++ L1.map fun x => wl (0 - ((k : Int) + 1)) x.1) (ρ := ro2 X.length Y.length ((X.length : Int) + Y.length + (L1.length : Int))) W.at_ hY h2 (by
    rintro l p y ⟨r, e⟩ h0 hy
    unfold ro2
    by_cases q : p < (Y.length : Int)
    · rw [if_pos q]
      refine ⟨by omega, ?_⟩
      rw [List.getElem?_append_left (by omega)] at hy
      rw [List.getElem?_append_left (by omega), List.getElem?_append_left (by omega), eB, List.getElem?_append_right (by rw [List.length_map]; omega), List.getElem?_map, List.length_map, show (p + (X.length : Int)).toNat - X.length = p.toNat by omega, hy]
      rfl
    · rw [if_neg q]
      refine ⟨by omega, ?_⟩
      rw [List.getElem?_append_right (by omega), List.getElem?_map] at hy
      rw [List.getElem?_append_right (by omega), List.getElem?_map, dl, show (p - (Y.length : Int) + ((X.length : Int) + Y.length + (L1.length : Int))).toNat - (X.length + Y.length + L1.length) = p.toNat - Y.length by omega]
      obtain ⟨z, hz, rfl⟩ := Option.map_eq_some_iff.mp hy
      rw [hz]; rfl)
  have eC : (L2.map (fun x => (wl ((k : Int) + 1) x.1, x.2.map (ro2 X.length Y.length ((X.length : Int) + Y.length + (L1.length : Int)))))).map (·.1) = L2.map fun x => wl ((k : Int) + 1) x.1 := by rw [List.map_map]; rfl
  unfold joined
  refine linksOk_app (linksOk_app A (by rw [eA]; exact C)) ⟨?_, trivial⟩
  rw [List.map_append, eA, eC]
  -- the last ones of both
  obtain ⟨p1, g1⟩ := last_at e1
  obtain ⟨p2, g2⟩ := last_at e2
  rw [List.length_append, List.length_map] at p1 g1 p2 g2
  rw [List.getElem?_append_right (by omega), List.getElem?_map] at g1 g2
  obtain ⟨z1, hz1, ez1⟩ := Option.map_eq_some_iff.mp g1
  obtain ⟨z2, hz2, ez2⟩ := Option.map_eq_some_iff.mp g2
  have wl_len2 : (B ++ (L1.map (fun x => wl (0 - ((k : Int) + 1)) x.1) ++ L2.map fun x => wl ((k : Int) + 1) x.1)).length = X.length + Y.length + L1.length + L2.length := by
    rw [List.length_append, List.length_append, List.length_map, List.length_map, bl]; omega
  have i1 : atI (B ++ (L1.map (fun x => wl (0 - ((k : Int) + 1)) x.1) ++ L2.map fun x => wl ((k : Int) + 1) x.1)) ((X.length : Int) + Y.length + (L1.length : Int) - 1) = some [0 - ((k : Int) + 1)] := by
    rw [atI_some (by omega), List.getElem?_append_right (by omega), List.getElem?_append_left (by rw [List.length_map]; omega), List.getElem?_map, show ((X.length : Int) + Y.length + (L1.length : Int) - 1).toNat - B.length = X.length + L1.length - 1 - X.length by omega, hz1]
    show some (wl _ z1.1) = _
    rw [ez1, wl_nil]
  have i2 : atI (B ++ (L1.map (fun x => wl (0 - ((k : Int) + 1)) x.1) ++ L2.map fun x => wl ((k : Int) + 1) x.1)) ((X.length : Int) + Y.length + ((L1.length + L2.length : Nat) : Int) - 1) = some [(k : Int) + 1] := by
    rw [atI_some (by omega), List.getElem?_append_right (by omega), List.getElem?_append_right (by rw [List.length_map]; omega), List.getElem?_map, List.length_map, show ((X.length : Int) + Y.length + ((L1.length + L2.length : Nat) : Int) - 1).toNat - B.length - L1.length = Y.length + L2.length - 1 - Y.length by omega, hz2]
    show some (wl _ z2.1) = _
    rw [ez2, wl_nil]
  unfold linkOk
  simp only [Bool.and_eq_true, decide_eq_true_eq]
  refine ⟨⟨⟨rfl, rfl⟩, List.all_eq_true.mpr fun q hq => ?_⟩, ?_⟩
  · simp only [Bool.and_eq_true, decide_eq_true_eq]
    rw [wl_len2]
    rcases List.mem_cons.mp hq with rfl | hq
    · omega
    · rw [List.mem_singleton.mp hq]; omega
  · show [((X.length : Int) + Y.length + ((L1.length + L2.length : Nat) : Int) - 1)].foldl (gstep _) (atI _ ((X.length : Int) + Y.length + (L1.length : Int) - 1)) = some []
    rw [i1]
    show (atI _ _).bind (fun y => metBy [0 - ((k : Int) + 1)] y) = some []
    rw [i2]
    show metBy [0 - ((k : Int) + 1)] [(k : Int) + 1] = some []
    have e : contr [0 - ((k : Int) + 1)] [(k : Int) + 1] = [0 - ((k : Int) + 1)] := List.filter_eq_self.mpr fun l hl => decide_eq_true (by rw [List.mem_singleton.mp hl]; exact List.mem_singleton.mpr (by omega))
    unfold metBy
    rw [e]
    have f1 : ([0 - ((k : Int) + 1)].filter fun l => !decide (l = 0 - ((k : Int) + 1))) = [] := List.filter_eq_nil_iff.mpr fun l hl => by rw [decide_eq_true (List.mem_singleton.mp hl)]; exact Bool.false_ne_true
    have f2 : ([(k : Int) + 1].filter fun l => !decide (l = 0 - (0 - ((k : Int) + 1)))) = [] := List.filter_eq_nil_iff.mpr fun l hl => by rw [decide_eq_true (show l = 0 - (0 - ((k : Int) + 1)) by have := List.mem_singleton.mp hl; omega)]; exact Bool.false_ne_true
    show some (sset (_ ++ _)) = _
    rw [f1, f2]
    exact congrArg some (sset_one (ms := []) List.Pairwise.nil fun _ => Iff.rfl).symm
end Nt
set_option maxRecDepth 100000
set_option maxHeartbeats 4000000
/-! NtJ4: one bundle or the other: papers and chains walked. -/
namespace Nt
open PySem PySem.Spec PyProof.Rows L2
/-- what solve_told tells -/
def SolT (many : Int) (cs : Cls') (t : Addr) (H : Hp) : Prop := (∃ (b : Addr) (ln : List Cl), H t = some (.tup [.str "paper", .ref b]) ∧ H b = some (.tup (ln.map rf)) ∧ CLs H ln ∧ PaperOk many cs (ln.map (·.2))) ∨ ∃ (b : Addr) (ys : List Int), H t = some (.tup [.str "values", .ref b]) ∧ H b = some (.tup (ys.map V.int)) ∧ ValsOk many cs ys
theorem SolT.same {many : Int} {cs : Cls'} {t : Addr} {H H' : Hp} (h : SolT many cs t H) (s : Same H H') : SolT many cs t H' := by
  rcases h with ⟨b, ln, h1, h2, h3, h4⟩ | ⟨b, ys, h1, h2, h3⟩
  · exact .inl ⟨b, ln, s _ _ h1, s _ _ h2, h3.mono s, h4⟩
  · exact .inr ⟨b, ys, s _ _ h1, s _ _ h2, h3⟩
theorem sol_ask {K : PySem.W.Frag} {H : Hp} {Q : VK} {E : XK} {v : V} {many : Int} {as : List Cl} (B : BdS H v many as) (k : ∀ H' t, Same H H' → SolT many (as.map (·.2)) t H' → Q (.ref t) H') : sp_solve_told K [v] H Q E :=
  ⟨v, many, as, rfl, B, fun H' t b ln s h1 h2 h3 h4 => k H' t s (.inl ⟨b, ln, h1, h2, h3, h4⟩), fun H' t b ys s h1 h2 h3 => k H' t s (.inr ⟨b, ys, h1, h2, h3⟩)⟩
theorem cut_init (xs : List V) (y : V) : cutV (xs ++ [y]) none (some (-1)) = xs := by
  have e : HT.sIx (xs ++ [y]).length (xs ++ [y]).length (some (-1)) = xs.length := by
    show (if (-1 : Int) < 0 then ((-1 : Int) + ((xs ++ [y]).length : Int)).toNat else min (-1 : Int).toNat (xs ++ [y]).length) = _
    rw [if_pos (by decide), List.length_append]
    simp
    omega
  unfold cutV
  rw [e, HT.sIx_none, List.drop_zero, Nat.sub_zero, List.take_append_of_le_length (Nat.le_refl _), List.take_length]
theorem vals_len {many : Int} {cs : Cls'} {ys : List Int} (h : many ≤ 7) (V : ValsOk many cs ys) : ys.length ≤ 7 := by
  have := congrArg List.length (isVal_iff V.val)
  rw [List.length_map, nums_len] at this
  omega
theorem vals_ok {many : Int} {cs : Cls'} {ys : List Int} (V : ValsOk many cs ys) : (isVal many ys && doHold cs ys) = true := by
  rw [V.val, Bool.true_and]
  refine List.all_eq_true.mpr fun c hc => ?_
  obtain ⟨x, h1, h2⟩ := V.holds c hc
  exact List.any_eq_true.mpr ⟨x, h1, decide_eq_true h2⟩
theorem short_len {k : Nat} {X : Cls'} {ln : List Cl} (h : k ≤ 6) (P : PaperOk k X (ln.map (·.2))) : ln.length ≤ 64 ∧ ∀ x ∈ ln, x.2.length ≤ 100 := by
  refine ⟨?_, fun x hx => ?_⟩
  · have := P.short
    rw [List.length_map] at this
    exact Nat.le_trans this (Nat.pow_le_pow_right (by decide) (show ((k : Nat) : Int).toNat ≤ 6 by omega))
  · have := isCl_len (by omega) (P.cl _ (List.mem_map_of_mem hx)); omega
theorem paper_cnt {many : Int} {cs ps : Cls'} (hc : ∀ c ∈ cs, isCl many c = true) (P : PaperOk many cs ps) : cnt many cs = 0 := (cnt_zero hc).mpr (paper_no hc P)
theorem vals_cnt {many : Int} {cs : Cls'} {ys : List Int} (hc : ∀ c ∈ cs, isCl many c = true) (V : ValsOk many cs ys) : cnt many cs ≠ 0 := (cnt_pos hc).mpr ⟨_, vals_yes hc V⟩
section
variable {P : Program} {w : World} {K : PySem.W.Frag} {mg : Str → Option Value} {base : Heap}
theorem sc_law_is_paper_right : FnScope ["one", "other", "both", "number", "told", "its", "joint", "row", "literal", "paper", "few", "much", "rows", "found", "clause", "places", "at", "step", "whole", "chain", "made", "meets"] ["one", "other", "both", "number"] (defScope s_law_is_paper_right) := ⟨rfl, rfl, rfl, by decide +kernel, rfl, by decide +kernel, by decide +kernel⟩
theorem ok_law_is_paper_right (T : Tx K mg) (C_solve_told : CalF P w K mg base ("solve_told", none) 7 ["bundle"] (sp_solve_told K)) (C_chained : CalF P w K mg base ("chained", none) 6 ["bundle", "paper"] (sp_chained K)) (C_shows_solved : CalF P w K mg base ("shows_solved", none) 7 ["bundle", "value"] (sp_shows_solved K)) (C_law_with : CalF P w K mg base ("_law_with", none) 1 ["clauses", "literal"] (sp_law_with K)) (C_is_paper : CalF P w K mg base ("is_paper", none) 6 ["bundle", "value"] (sp_is_paper K)) (C_is_chain : CalF P w K mg base ("is_chain", none) 6 ["bundle", "value"] (sp_is_chain K)) : CalF P w K mg base ("_law_is_paper_right", none) 8 ["one", "other", "both", "number"] (sp_law_is_paper_right K) := by
  have mg_len : mg "len" = none := T.free 62
  have mg_list : mg "list" = none := T.free 63
  have mg_tuple : mg "tuple" = none := T.free 73
  have mg_sorted : mg "sorted" = none := T.free 69
  have mg_set : mg "set" = none := T.free 68
  obtain ⟨fd_solve_told, b_solve_told, G_solve_told, kp_solve_told⟩ := C_solve_told
  obtain ⟨fd_chained, b_chained, G_chained, kp_chained⟩ := C_chained
  obtain ⟨fd_shows_solved, b_shows_solved, G_shows_solved, kp_shows_solved⟩ := C_shows_solved
  obtain ⟨fd_law_with, b_law_with, G_law_with, kp_law_with⟩ := C_law_with
  obtain ⟨fd_is_paper, b_is_paper, G_is_paper, kp_is_paper⟩ := C_is_paper
  obtain ⟨fd_is_chain, b_is_chain, G_is_chain, kp_is_chain⟩ := C_is_chain
  have mg_solve_told : mg "solve_told" = some (.ref (He.ga K "solve_told")) := T.glo 17
  have mg_chained : mg "chained" = some (.ref (He.ga K "chained")) := T.glo 36
  have mg_shows_solved : mg "shows_solved" = some (.ref (He.ga K "shows_solved")) := T.glo 19
  have mg_law_with : mg "_law_with" = some (.ref (He.ga K "_law_with")) := T.glo 49
  have mg_is_paper : mg "is_paper" = some (.ref (He.ga K "is_paper")) := T.glo 16
  have mg_is_chain : mg "is_chain" = some (.ref (He.ga K "is_chain")) := T.glo 40
  refine calF T (d := d_law_is_paper_right) 71 rfl sc_law_is_paper_right rfl rfl (fun _ _ _ _ _ _ us hl => match us, hl with | [_, _, _, _], _ => rfl) (len_law_is_paper_right K) ?_
  intro cdv A outer s H vs Q E hr h
  have hu := hu_of hr
  obtain ⟨v1, v2, v3, k, as1, as2, bs, rfl, B1, B2, B3, k1, k6, l1, l2, eb, kk⟩ := h
  have W := two_of B1.ok' B2.ok' eb
  refine ⟨_, (pss_cons (ps_par (i := 4) (j := 5) (by rfl) sc_law_is_paper_right.nd rfl rfl (by decide) rfl rfl (pa_cons (pe_call G_solve_told (hr.mono (by decide)) (by rfl) mg_solve_told kp_solve_told b_solve_told .nil pass0 (pa_cons (pv 0) pa_nil)) (pa_cons (pe_call G_solve_told (hr.mono (by decide)) (by rfl) mg_solve_told kp_solve_told b_solve_told .nil pass0 (pa_cons (pv 1) pa_nil)) pa_nil)) (by rfl))
      (pss_cons (ps_set (i := 6) sc_law_is_paper_right.nd rfl (Or.inl rfl) (pe_call G_solve_told (hr.mono (by decide)) (by rfl) mg_solve_told kp_solve_told b_solve_told .nil pass0 (pa_cons (pv 2) pa_nil)))
      (pss_cons (ps_if (PW.pt (pw_or (pt_cmpR op_ne (pe_cmpR op_eq (pe_ix ix_tup2 (pv 6) pe_int (fun _ _ => rfl)) pe_str (nomark _)) (pe_and (pe_cmpR op_eq (pe_ix ix_tup2 (pv 4) pe_int (fun _ _ => rfl)) pe_str (nomark _)) (pe_one (pe_cmpR op_eq (pe_ix ix_tup2 (pv 5) pe_int (fun _ _ => rfl)) pe_str (nomark _)))) (nomark _)) (pw_or1 (pt_cmpR op_notBl (pe_call G_shows_solved (hr.mono (by decide)) (by rfl) mg_shows_solved kp_shows_solved b_shows_solved .nil pass0 (pa_cons (pv 2) (pa_cons (pv 6) pa_nil))) pe_bl (nomark _))))) (pss_one (ps_ret pe_bl)) pss_nil)
      (pss_cons (ps_for PassesOwn.never rfl (pi_tupK (K := K) rfl (pe_tup (pa_cons (pe_tup (pa_cons (pv 4) (pa_cons (pv 3) pa_nil))) (pa_cons (pe_tup (pa_cons (pv 5) (pa_cons (pe_op op_sub pe_int (pv 3)) pa_nil))) pa_nil)))) (pg_tup rfl (pgs_cons (pg_name (i := 7) sc_law_is_paper_right.nd rfl (Or.inl rfl)) (pgs_cons (pg_name (i := 8) sc_law_is_paper_right.nd rfl (Or.inl rfl)) pgs_nil))) (pss_one (ps_if (PW.pt (pw_and (pt_cmpR op_eq (pe_ix ix_tup2 (pv 7) pe_int (fun _ _ => rfl)) pe_str (nomark _)) (pw_and1 (pt_cmpR op_notBl (pe_call G_shows_solved (hr.mono (by decide)) (by rfl) mg_shows_solved kp_shows_solved b_shows_solved .nil pass0 (pa_cons (pv 2) (pa_cons (pe_tup (pa_cons pe_str (pa_cons (pe_op op_cat2 (pe_ix ix_tup2 (pv 7) pe_int (fun _ _ => rfl)) (pe_tup (pa_cons (pv 8) pa_nil))) pa_nil))) pa_nil))) pe_bl (nomark _))))) (pss_one (ps_ret pe_bl)) pss_nil)))
      (pss_cons (ps_if (pt_cmpR op_eq (pe_ix ix_tup2 (pv 6) pe_int (fun _ _ => rfl)) pe_str (nomark _)) (pss_one (ps_ret pe_bl)) pss_nil)
      (pss_cons (ps_set (i := 9) sc_law_is_paper_right.nd rfl (Or.inl rfl) (pe_op op_cat2 (pe_op op_cat2 (pe_call G_law_with (hr.mono (by decide)) (by rfl) mg_law_with kp_law_with b_law_with .nil pass0 (pa_cons (pe_ix ix_tup2 (pv 4) pe_int (fun _ _ => rfl)) (pa_cons (pe_op op_sub pe_int (pv 3)) pa_nil))) (pe_call G_law_with (hr.mono (by decide)) (by rfl) mg_law_with kp_law_with b_law_with .nil pass0 (pa_cons (pe_ix ix_tup2 (pv 5) pe_int (fun _ _ => rfl)) (pa_cons (pv 3) pa_nil)))) (pe_tup (pa_cons (pe_tup pa_nil) pa_nil))))
      (pss_cons (ps_if (PW.pt (pw_or (pt_cmpR op_notBl (pe_call G_is_paper (hr.mono (by decide)) (by rfl) mg_is_paper kp_is_paper b_is_paper .nil pass0 (pa_cons (pv 2) (pa_cons (pv 9) pa_nil))) pe_bl (nomark _)) (pw_or (pt_cmpR op_notBl (pe_call G_shows_solved (hr.mono (by decide)) (by rfl) mg_shows_solved kp_shows_solved b_shows_solved .nil pass0 (pa_cons (pv 2) (pa_cons (pe_tup (pa_cons pe_str (pa_cons (pv 9) pa_nil))) pa_nil))) pe_bl (nomark _)) (pw_or1 (pt_cmpR op_notBl (pe_call G_is_paper (hr.mono (by decide)) (by rfl) mg_is_paper kp_is_paper b_is_paper .nil pass0 (pa_cons (pv 2) (pa_cons (pe_slice sl_tup2 (pv 9) po_none (po_some (pe_un un_neg pe_int))) pa_nil))) pe_bl (nomark _)))))) (pss_one (ps_ret pe_bl)) pss_nil)
      (pss_cons (ps_asg (pe_tup (pa_cons (pe_callB call_len2 (by rfl) mg_len bt_len (pa_cons (pe_ix ix_tup2 (pv 0) pe_int (fun _ _ => rfl)) pa_nil)) (pa_cons (pe_callB call_len2 (by rfl) mg_len bt_len (pa_cons (pe_ix ix_tup2 (pv 1) pe_int (fun _ _ => rfl)) pa_nil)) pa_nil))) (pg_tup rfl (pgs_cons (pg_name (i := 10) sc_law_is_paper_right.nd rfl (Or.inr rfl)) (pgs_cons (pg_name (i := 11) sc_law_is_paper_right.nd rfl (Or.inr rfl)) pgs_nil))))
      (pss_cons (ps_par (i := 12) (j := 13) (by rfl) sc_law_is_paper_right.nd rfl rfl (by decide) rfl rfl (pa_cons (pe_call G_chained (hr.mono (by decide)) (by rfl) mg_chained kp_chained b_chained .nil pass0 (pa_cons (pv 0) (pa_cons (pe_ix ix_tup2 (pv 4) pe_int (fun _ _ => rfl)) pa_nil))) (pa_cons (pe_lst pa_nil) pa_nil)) (by rfl))
      (pss_cons (ps_for PassesOwn.never rfl (pi_tupK (K := K) rfl (pv 12)) (pg_tup rfl (pgs_cons (pg_name (i := 14) sc_law_is_paper_right.nd rfl (Or.inl rfl)) (pgs_cons (pg_name (i := 15) sc_law_is_paper_right.nd rfl (Or.inl rfl)) pgs_nil))) (pss_one (ps_expr (pe_bm PySem.F.plainAttrs_list PySem.F.slot_list_append PySem.F.type_list_append mt_append (pv 13) (pa_cons (pe_callTy call_tuple2 (by rfl) mg_tuple bt_tuple (pa_cons (pe_lc (own := [("at", 16)]) (g := gName 16) (tt := tYes) rfl sc_law_is_paper_right.nd (pi_tupK (K := K) rfl (pv 15)) (blkOk_by (by kernel_rfl)) (fun _ _ _ _ _ => (pg_name (i := 16) sc_law_is_paper_right.nd rfl (Or.inl rfl))) (fun _ _ _ _ _ => pts_nil) (fun _ _ _ _ _ => (pe_ifExp (pt_cmpR op_lt (pv 16) (pv 10) (nomark _)) (pv 16) (pe_op op_add (pv 16) (pv 11))))) pa_nil)) pa_nil)))))
      (pss_cons (ps_set (i := 17) sc_law_is_paper_right.nd rfl (Or.inr rfl) (pe_op op_add (pe_op op_add (pv 10) (pv 11)) (pe_callB call_len2 (by rfl) mg_len bt_len (pa_cons (pv 12) pa_nil))))
      (pss_cons (ps_for PassesOwn.never rfl (pi_tupK (K := K) rfl (pe_call G_chained (hr.mono (by decide)) (by rfl) mg_chained kp_chained b_chained .nil pass0 (pa_cons (pv 1) (pa_cons (pe_ix ix_tup2 (pv 5) pe_int (fun _ _ => rfl)) pa_nil)))) (pg_tup rfl (pgs_cons (pg_name (i := 14) sc_law_is_paper_right.nd rfl (Or.inl rfl)) (pgs_cons (pg_name (i := 15) sc_law_is_paper_right.nd rfl (Or.inl rfl)) pgs_nil))) (pss_one (ps_expr (pe_bm PySem.F.plainAttrs_list PySem.F.slot_list_append PySem.F.type_list_append mt_append (pv 13) (pa_cons (pe_callTy call_tuple2 (by rfl) mg_tuple bt_tuple (pa_cons (pe_lc (own := [("at", 16)]) (g := gName 16) (tt := tYes) rfl sc_law_is_paper_right.nd (pi_tupK (K := K) rfl (pv 15)) (blkOk_by (by kernel_rfl)) (fun _ _ _ _ _ => (pg_name (i := 16) sc_law_is_paper_right.nd rfl (Or.inl rfl))) (fun _ _ _ _ _ => pts_nil) (fun _ _ _ _ _ => (pe_ifExp (pt_cmpR op_lt (pv 16) (pv 11) (nomark _)) (pe_op op_add (pv 16) (pv 10)) (pe_op op_add (pe_op op_sub (pv 16) (pv 11)) (pv 17))))) pa_nil)) pa_nil)))))
      (pss_cons (ps_expr (pe_bm PySem.F.plainAttrs_list PySem.F.slot_list_append PySem.F.type_list_append mt_append (pv 13) (pa_cons (pe_tup (pa_cons (pe_op op_sub (pe_op op_add (pe_op op_add (pv 10) (pv 11)) (pe_callB call_len2 (by rfl) mg_len bt_len (pa_cons (pv 12) pa_nil))) pe_int) (pa_cons (pe_op op_sub (pe_op op_add (pe_op op_add (pv 10) (pv 11)) (pe_callB call_len2 (by rfl) mg_len bt_len (pa_cons (pv 13) pa_nil))) pe_int) pa_nil))) pa_nil)))
      (pss_cons (ps_asg (pe_tup (pa_cons (pe_callTy call_list2 (by rfl) mg_list bt_list (pa_cons (pe_ix ix_tup2 (pv 2) pe_int (fun _ _ => rfl)) pa_nil)) (pa_cons (pe_lst pa_nil) pa_nil))) (pg_tup rfl (pgs_cons (pg_name (i := 18) sc_law_is_paper_right.nd rfl (Or.inr rfl)) (pgs_cons (pg_name (i := 19) sc_law_is_paper_right.nd rfl (Or.inl rfl)) pgs_nil))))
      (pss_cons (ps_for PassesOwn.never rfl (pi_listK (K := K) rfl (pv 13)) (pg_name (i := 15) sc_law_is_paper_right.nd rfl (Or.inl rfl)) (pss_cons (ps_set (i := 20) sc_law_is_paper_right.nd rfl (Or.inl rfl) (pe_ix ix_list2 (pv 18) (pe_ix ix_tup2 (pv 15) pe_int (fun _ _ => rfl)) (fun _ _ => rfl)))
      (pss_cons (ps_for PassesOwn.never rfl (pi_tupK (K := K) rfl (pe_slice sl_tup2 (pv 15) (po_some pe_int) po_none)) (pg_name (i := 16) sc_law_is_paper_right.nd rfl (Or.inr rfl)) (pss_cons (ps_set (i := 21) sc_law_is_paper_right.nd rfl (Or.inr rfl) (pe_lc (own := [("literal", 8)]) (g := gName 8) rfl sc_law_is_paper_right.nd (pi_tupK (K := K) rfl (pv 20)) (blkOk_by (by kernel_rfl)) (fun _ _ _ _ _ => (pg_name (i := 8) sc_law_is_paper_right.nd rfl (Or.inl rfl))) (fun _ _ _ _ _ => (pts_one (pt_cmpR op_in2 (pe_op op_sub pe_int (pv 8)) (pe_ix ix_list2 (pv 18) (pv 16) (fun _ _ => rfl)) (by rfl)))) (fun _ _ _ _ _ => (pv 8))))
      (pss_cons (ps_if (pt_cmpR op_ne (pe_callB call_len2 (by rfl) mg_len bt_len (pa_cons (pv 21) pa_nil)) pe_int (nomark _)) (pss_one (ps_ret pe_bl)) pss_nil)
      (pss_one (ps_set (i := 20) sc_law_is_paper_right.nd rfl (Or.inl rfl) (pe_callTy call_tuple2 (by rfl) mg_tuple bt_tuple (pa_cons (pe_sortedSet rfl (by rfl) mg_sorted (by rfl) mg_set (pe_op op_cat (pe_lc (own := [("literal", 8)]) (g := gName 8) rfl sc_law_is_paper_right.nd (pi_tupK (K := K) rfl (pv 20)) (blkOk_by (by kernel_rfl)) (fun _ _ _ _ _ => (pg_name (i := 8) sc_law_is_paper_right.nd rfl (Or.inl rfl))) (fun _ _ _ _ _ => (pts_one (pt_cmpR op_ne (pv 8) (pe_ix ix_list2 (pv 21) pe_int (fun _ _ => rfl)) (nomark _)))) (fun _ _ _ _ _ => (pv 8))) (pe_lc (own := [("literal", 8)]) (g := gName 8) rfl sc_law_is_paper_right.nd (pi_tupK (K := K) rfl (pe_ix ix_list2 (pv 18) (pv 16) (fun _ _ => rfl))) (blkOk_by (by kernel_rfl)) (fun _ _ _ _ _ => (pg_name (i := 8) sc_law_is_paper_right.nd rfl (Or.inl rfl))) (fun _ _ _ _ _ => (pts_one (pt_cmpR op_ne (pv 8) (pe_op op_sub pe_int (pe_ix ix_list2 (pv 21) pe_int (fun _ _ => rfl))) (nomark _)))) (fun _ _ _ _ _ => (pv 8))))) pa_nil)))))))
      (pss_cons (ps_expr (pe_bm PySem.F.plainAttrs_list PySem.F.slot_list_append PySem.F.type_list_append mt_append (pv 18) (pa_cons (pv 20) pa_nil)))
      (pss_one (ps_expr (pe_bm PySem.F.plainAttrs_list PySem.F.slot_list_append PySem.F.type_list_append mt_append (pv 19) (pa_cons (pe_tup (pa_cons (pv 20) (pa_cons (pv 15) pa_nil))) pa_nil))))))))
      (pss_one (ps_ret (pe_and (pe_cmpR (op_eqE hr.units) (pe_ix ix_tup2 (pe_ix ix_list2 (pv 19) (pe_un un_neg pe_int) (fun _ _ => rfl)) pe_int (fun _ _ => rfl)) (pe_tup pa_nil) (nomark _)) (pe_one (pe_cmpR op_isBl (pe_call G_is_chain (hr.mono (by decide)) (by rfl) mg_is_chain kp_is_chain b_is_chain .nil pass0 (pa_cons (pv 2) (pa_cons (pe_callTy call_tuple2 (by rfl) mg_tuple bt_tuple (pa_cons (pv 19) pa_nil)) pa_nil))) pe_bl (nomark _))))))))))))))))))))), ?_⟩
  have hcnt := W.count
  have n1 := B1.ok'
  have n2 := B2.ok'
  have n3 := B3.ok'
  have bsl : bs.length ≤ 24 := by
    have := congrArg List.length eb
    rw [List.length_map, List.length_append, List.length_map, List.length_map, List.length_map, List.length_map] at this
    omega
  -- told
  refine ⟨_, rfl, ?_⟩
  try unfold tNil
  refine (?_ : sp_solve_told K [v1] _ _ _)
  refine sol_ask B1 fun H1 tA s1 hA => ⟨_, rfl, ?_⟩
  refine (?_ : sp_solve_told K [v2] _ _ _)
  refine sol_ask (B2.mono s1) fun H2 tB s2 hB => ⟨_, _, rfl, ?_⟩
  refine ⟨_, rfl, ?_⟩
  refine (?_ : sp_solve_told K [v3] _ _ _)
  refine sol_ask (B3.mono (s1.trans s2)) fun H3 tC s3 hC => ?_
  have s03 := s1.trans (s2.trans s3)
  have hA := hA.same (s2.trans s3)
  have hB := hB.same s3
  have B1 := B1.mono s03
  have B2 := B2.mono s03
  have B3 := B3.mono s03
  apply fork (H0 := H3)
  · intro cont
    rcases hC with ⟨bC, lnC, c1, c2, c3, c4⟩ | ⟨bC, ysC, c1, c2, c3⟩
    · have z := paper_cnt n3 c4
      rcases hA with ⟨bA, lnA, a1, a2, a3, a4⟩ | ⟨bA, ysA, a1, a2, a3⟩
      · rcases hB with ⟨bB, lnB, b1, b2, b3, b4⟩ | ⟨bB, ysB, b1, b2, b3⟩
        · refine ⟨_, rfl, tC, _, _, _, rfl, rfl, c1, rfl, rfl, _, rfl, tA, _, _, _, rfl, rfl, a1, rfl, rfl, _, rfl, iteT ?_⟩
          refine ⟨_, rfl, tB, _, _, _, rfl, rfl, b1, rfl, rfl, rfl, _, rfl, iteF ?_⟩
          have cl := c4.len
          rw [List.length_map] at cl
          refine ⟨_, rfl, _, rfl, v3, _, bs, tC, bC, rfl, B3, .inr ⟨lnC, c1, c2, c3, by omega, fun x hx => ?_, fun H4 r s4 hr => ?_⟩⟩
          · have := isCl_len (by omega) (c4.cl _ (List.mem_map_of_mem hx)); omega
          · rw [hr.mpr c4.is]
            refine ⟨_, _, rfl, rfl, _, rfl, ?_⟩
            rw [decide_eq_true rfl]
            exact iteF (cont _ s4)
        · exact absurd (by omega) (vals_cnt n2 b3)
      · exact absurd (by omega) (vals_cnt n1 a3)
    · have z := vals_cnt n3 c3
      have yl := vals_len (by omega) c3
      rcases hA with ⟨bA, lnA, a1, a2, a3, a4⟩ | ⟨bA, ysA, a1, a2, a3⟩
      · rcases hB with ⟨bB, lnB, b1, b2, b3, b4⟩ | ⟨bB, ysB, b1, b2, b3⟩
        · have h1 := paper_cnt n1 a4
          have h2 := paper_cnt n2 b4
          exact absurd (by omega) z
        · refine ⟨_, rfl, tC, _, _, _, rfl, rfl, c1, rfl, rfl, _, rfl, tA, _, _, _, rfl, rfl, a1, rfl, rfl, _, rfl, iteT ?_⟩
          refine ⟨_, rfl, tB, _, _, _, rfl, rfl, b1, rfl, rfl, rfl, _, rfl, iteF ?_⟩
          refine ⟨_, rfl, _, rfl, v3, _, bs, tC, bC, rfl, B3, .inl ⟨ysC, c1, c2, by omega, fun H4 s4 => ?_⟩⟩
          refine ⟨_, _, rfl, rfl, _, rfl, ?_⟩
          rw [vals_ok c3, decide_eq_true rfl]
          exact iteF (cont _ s4)
      · refine ⟨_, rfl, tC, _, _, _, rfl, rfl, c1, rfl, rfl, _, rfl, tA, _, _, _, rfl, rfl, a1, rfl, rfl, _, rfl, iteF ?_⟩
        refine ⟨rfl, _, rfl, iteF ?_⟩
        refine ⟨_, rfl, _, rfl, v3, _, bs, tC, bC, rfl, B3, .inl ⟨ysC, c1, c2, by omega, fun H4 s4 => ?_⟩⟩
        refine ⟨_, _, rfl, rfl, _, rfl, ?_⟩
        rw [vals_ok c3, decide_eq_true rfl]
        exact iteF (cont _ s4)
  intro H4 s4
  have hA := hA.same s4
  have hB := hB.same s4
  have hC := hC.same s4
  have B1 := B1.mono s4
  have B2 := B2.mono s4
  have B3 := B3.mono s4
  have s04 := s03.trans s4
  clear s03 s3 s2 s1
  -- values, told of both
  refine ⟨_, rfl, _, rfl, by show 2 ≤ sizeLine; decide, fun a1 ha1 => ⟨_, rfl, _, rfl, _, _, rfl, rfl, by show 2 ≤ sizeLine; decide, fun a2 ha2 => ⟨by show 2 ≤ sizeLine; decide, fun a3 ha3 => ?_⟩⟩⟩
  have g1 := Same.new (o := .tup [.ref tA, .int ((k : Int) + 1)]) ha1
  have g2 := Same.new (o := .tup [.ref tB, .int (0 - ((k : Int) + 1))]) ha2
  have g3 := Same.new (o := .tup [.ref a1, .ref a2]) ha3
  have s45 := g1.trans (g2.trans g3)
  have hi1 := (g2.trans g3) _ _ (upd_same (H := H4) (a := a1) (o := .tup [.ref tA, .int ((k : Int) + 1)]))
  have hi2 := g3 _ _ (upd_same (H := upd H4 a1 (.tup [.ref tA, .int ((k : Int) + 1)])) (a := a2) (o := .tup [.ref tB, .int (0 - ((k : Int) + 1))]))
  have hi3 : upd (upd (upd H4 a1 (.tup [.ref tA, .int ((k : Int) + 1)])) a2 (.tup [.ref tB, .int (0 - ((k : Int) + 1))])) a3 (.tup [.ref a1, .ref a2]) a3 = some (.tup ([(a1, (tA, (k : Int) + 1)), (a2, (tB, 0 - ((k : Int) + 1)))].map fun x : Addr × (Addr × Int) => V.ref x.1)) := upd_same
  generalize upd (upd (upd H4 a1 (.tup [.ref tA, .int ((k : Int) + 1)])) a2 (.tup [.ref tB, .int (0 - ((k : Int) + 1))])) a3 (.tup [.ref a1, .ref a2]) = H5 at s45 hi1 hi2 hi3
  have hA := hA.same s45
  have hB := hB.same s45
  have hC := hC.same s45
  have B1 := B1.mono s45
  have B2 := B2.mono s45
  have B3 := B3.mono s45
  have s05 := s04.trans s45
  clear g1 g2 g3 ha1 ha2 ha3 s04 s45
  have side : ∀ x ∈ [(a1, (tA, (k : Int) + 1)), (a2, (tB, 0 - ((k : Int) + 1)))], H5 x.1 = some (.tup [.ref x.2.1, .int x.2.2]) ∧ ∃ (X Y : Cls'), SolT k X x.2.1 H5 ∧ Two k x.2.2 X Y (bs.map (·.2)) := fun x hx => by
    rcases List.mem_cons.mp hx with rfl | hx
    · exact ⟨hi1, _, _, hA, W⟩
    · rw [List.mem_singleton.mp hx]
      exact ⟨hi2, _, _, hB, W.symm⟩
  refine ⟨a3, rfl, ⟨_, SqT.of hi3⟩, ?_⟩
  refine forA [(a1, (tA, (k : Int) + 1)), (a2, (tB, 0 - ((k : Int) + 1)))] (fun σ x => (σ.set 7 (some (.ref x.2.1))).set 8 (some (.int x.2.2))) (wkTF _ (fun x : Addr × (Addr × Int) => V.ref x.1) fun x H => H x.1 = some (.tup [.ref x.2.1, .int x.2.2])) (fun σ => yTup (t := fun x : Addr × (Addr × Int) => x.1) fun _ => rfl)
    (fun don σ H => ∃ y7 y8, σ = [some v1, some v2, some v3, some (.int ((k : Int) + 1)), some (.ref tA), some (.ref tB), some (.ref tC), y7, y8, none, none, none, none, none, none, none, none, none, none, none, none, none] ∧ Same H5 H)
    ⟨none, none, rfl, Same.refl _⟩ (fun l σ H ⟨_, _, _, s⟩ => ⟨SqT.of (s _ _ hi3), fun x hx => s _ _ (side x hx).1⟩) ?_ ?_
  · rintro don x r σ H6 H7 e ⟨y7, y8, rfl, s6⟩ s7
    have hx : x ∈ [(a1, (tA, (k : Int) + 1)), (a2, (tB, 0 - ((k : Int) + 1)))] := by rw [e]; exact List.mem_append_right _ List.mem_cons_self
    obtain ⟨_, X, Y, hS, WX⟩ := side x hx
    have s57 := s6.trans s7
    rcases hS.same s57 with ⟨b, ln, c1, c2, c3, c4⟩ | ⟨b, ys, c1, c2, c3⟩
    · refine ⟨_, rfl, x.2.1, _, _, _, rfl, rfl, c1, rfl, rfl, _, rfl, iteF (iteF ?_)⟩
      exact ⟨_, _, rfl, s57⟩
    · have yl := vals_len (by omega) c3
      refine ⟨_, rfl, x.2.1, _, _, _, rfl, rfl, c1, rfl, rfl, _, rfl, iteT ?_⟩
      refine ⟨_, rfl, _, rfl, x.2.1, _, _, _, rfl, rfl, c1, rfl, _, rfl, by show 1 ≤ sizeLine; decide, fun t8 ht8 => ?_⟩
      have g8 := Same.new (o := .tup [.int x.2.2]) ht8
      refine ⟨b, t8, _, _, rfl, rfl, g8 _ _ c2, upd_same, by rw [List.length_map]; show _ + 1 ≤ _; omega, fun c9 H9 s9 hc9 => ⟨by show 2 ≤ sizeLine; decide, fun t10 ht10 => ?_⟩⟩
      have g10 := Same.new (o := .tup [.str "values", .ref c9]) ht10
      have s710 := g8.trans (s9.trans g10)
      refine ⟨v3, _, bs, t10, c9, rfl, B3.mono (s57.trans s710), .inl ⟨ys ++ [x.2.2], upd_same, by rw [List.map_append]; exact g10 _ _ hc9, by rw [List.length_append]; show _ + 1 ≤ _; omega, fun H11 s11 => ?_⟩⟩
      refine ⟨_, _, rfl, rfl, _, rfl, ?_⟩
      rw [WX.vals c3, decide_eq_true rfl]
      refine iteF ?_
      exact ⟨_, _, rfl, s57.trans (s710.trans s11)⟩
  rintro σ H6 ⟨y7, y8, rfl, s6⟩
  have hA := hA.same s6
  have hB := hB.same s6
  have hC := hC.same s6
  have B1 := B1.mono s6
  have B2 := B2.mono s6
  have B3 := B3.mono s6
  have s06 := s05.trans s6
  clear side hi1 hi2 hi3 s05 s6
  rcases hC with ⟨bC, lnC, c1, c2, c3, c4⟩ | ⟨bC, ysC, c1, c2, c3⟩
  rotate_left
  · refine ⟨_, rfl, tC, _, _, _, rfl, rfl, c1, rfl, rfl, _, rfl, iteT ?_⟩
    exact kk _ s06
  have z := paper_cnt n3 c4
  rcases hA with ⟨bA, lnA, a1, a2, a3, PA⟩ | ⟨bA, ysA, a1, a2, a3⟩
  rotate_left
  · exact absurd (by omega) (vals_cnt n1 a3)
  rcases hB with ⟨bB, lnB, b1, b2, b3, PB⟩ | ⟨bB, ysB, b1, b2, b3⟩
  rotate_left
  · exact absurd (by omega) (vals_cnt n2 b3)
  refine ⟨_, rfl, tC, _, _, _, rfl, rfl, c1, rfl, rfl, _, rfl, iteF ?_⟩
  obtain ⟨la, xa⟩ := short_len k6 PA
  obtain ⟨lb, xb⟩ := short_len k6 PB
  clear c1 c2 c3 c4 z
  -- the joint paper
  refine ⟨_, rfl, tA, _, _, _, rfl, rfl, a1, rfl, _, rfl, _, _, rfl, rfl, bA, _, lnA, rfl, a2, a3, by omega, fun x hx => by have := xa x hx; omega, fun H7 w1 u1 s7 hw1 hu1 e1 => ?_⟩
  refine ⟨_, rfl, tB, _, _, _, rfl, rfl, s7 _ _ b1, rfl, _, rfl, bB, _, lnB, rfl, s7 _ _ b2, b3.mono s7, by omega, fun x hx => by have := xb x hx; omega, fun H8 w2 u2 s8 hw2 hu2 e2 => ?_⟩
  have ul1 : u1.length = lnA.length := by have := congrArg List.length e1; simpa using this
  have ul2 : u2.length = lnB.length := by have := congrArg List.length e2; simpa using this
  refine ⟨w1, w2, _, _, rfl, rfl, s8 _ _ hw1, hw2, by rw [List.length_map, List.length_map]; omega, fun w3 H9 s9 hw3 => ⟨Nat.zero_le _, fun e9 he9 => ⟨by show 1 ≤ sizeLine; decide, fun e10 he10 => ?_⟩⟩⟩
  have g9 := Same.new (o := .tup []) he9
  have g10 := Same.new (o := .tup [.ref e9]) he10
  refine ⟨w3, e10, _, _, rfl, rfl, (g9.trans g10) _ _ hw3, upd_same, by rw [List.length_append, List.length_map, List.length_map]; show _ + 1 ≤ _; omega, fun pp H11 s11 hpp => ?_⟩
  have s911 := g9.trans (g10.trans s11)
  have s611 := s7.trans (s8.trans (s9.trans s911))
  have hcls : CLs H11 (u1 ++ u2 ++ [((e9, []) : Cl)]) := fun x hx => by
    rcases List.mem_append.mp hx with hx | hx
    · rcases List.mem_append.mp hx with hx | hx
      · exact (s8.trans (s9.trans s911)) _ _ (hu1 x hx)
      · exact (s9.trans s911) _ _ (hu2 x hx)
    · rw [List.mem_singleton.mp hx]; exact (g10.trans s11) _ _ upd_same
  have hpp' : H11 pp = some (.tup ((u1 ++ u2 ++ [((e9, []) : Cl)]).map rf)) := by rw [List.map_append, List.map_append]; exact hpp
  have epp : (u1 ++ u2).map (·.2) = (lnA.map (·.2)).map (wl (0 - ((k : Int) + 1))) ++ (lnB.map (·.2)).map (wl ((k : Int) + 1)) := by
    rw [List.map_append, e1, e2, List.map_map, List.map_map]; rfl
  have IP : IsPaper ((k : Int) + 1) (bs.map (·.2)) ((u1 ++ u2 ++ [((e9, []) : Cl)]).map (·.2)) := by
    rw [List.map_append, epp]; exact paper_join W PA PB
  have pl : (u1 ++ u2 ++ [((e9, []) : Cl)]).length ≤ 66000 := by rw [List.length_append, List.length_append]; show _ + _ + 1 ≤ _; omega
  have px : ∀ x ∈ u1 ++ u2 ++ [((e9, []) : Cl)], x.2.length ≤ 100000 := fun x hx => by
    rcases List.mem_append.mp hx with hx | hx
    · have h1 : x.2 ∈ (u1 ++ u2).map (·.2) := List.mem_map_of_mem hx
      have h2 := IP.2.1 x.2 (by rw [List.map_append]; exact List.mem_append_left _ h1)
      have := isCl_len (by omega) h2
      omega
    · rw [List.mem_singleton.mp hx]; exact Nat.zero_le _
  have B1 := B1.mono s611
  have B2 := B2.mono s611
  have B3 := B3.mono s611
  have a1 := s611 _ _ a1
  have a2 := s611 _ _ a2
  have a3 := a3.mono s611
  have b1 := s611 _ _ b1
  have b2 := s611 _ _ b2
  have b3 := b3.mono s611
  have s011 := s06.trans s611
  clear hw1 hw2 hw3 hu1 hu2 s7 s8 s9 s911 s611 s06 g9 g10 hpp
  refine ⟨_, rfl, _, rfl, v3, _, bs, _, pp, rfl, B3, hpp', hcls, pl, px, fun H12 r s12 hr => ?_⟩
  rw [hr.mpr IP]
  refine ⟨_, _, rfl, rfl, _, rfl, ?_⟩
  rw [decide_eq_true rfl]
  refine iteF ?_
  refine ⟨_, rfl, _, rfl, by show 2 ≤ sizeLine; decide, fun t13 ht13 => ?_⟩
  have g13 := Same.new (o := .tup [.str "paper", .ref pp]) ht13
  have s1113 := s12.trans g13
  refine ⟨v3, _, bs, t13, pp, rfl, B3.mono s1113, .inr ⟨u1 ++ u2 ++ [((e9, []) : Cl)], upd_same, s1113 _ _ hpp', hcls.mono s1113, pl, px, fun H14 r s14 hr => ?_⟩⟩
  rw [hr.mpr IP]
  refine ⟨_, _, rfl, rfl, _, rfl, ?_⟩
  rw [decide_eq_true rfl]
  refine iteF ?_
  have s1114 := s1113.trans s14
  refine ⟨_, rfl, _, rfl, _, rfl, _, rfl, pp, _, rfl, s1114 _ _ hpp', fun q15 H15 s15 hq15 => ?_⟩
  have ecut : cutV ((u1 ++ u2 ++ [((e9, []) : Cl)]).map rf) none (some (-1)) = (u1 ++ u2).map rf := by rw [List.map_append]; exact cut_init _ _
  rw [ecut] at hq15
  have s1115 := s1114.trans s15
  refine ⟨v3, _, bs, u1 ++ u2, q15, rfl, B3.mono s1115, hq15, fun x hx => s1115 _ _ (hcls x (List.mem_append_left _ hx)), by rw [List.length_append]; omega, fun x hx => px x (List.mem_append_left _ hx), fun H16 r s16 hr => ?_⟩
  have hrf : r = false := by
    cases hr2 : r with
    | false => rfl
    | true =>
      have := hr.mp hr2
      rw [epp] at this
      exact absurd this (paper_less (X := []) PB)
  rw [hrf]
  refine ⟨_, _, rfl, rfl, _, rfl, iteF ?_⟩
  have s1116 := s1115.trans s16
  have B1 := B1.mono s1116
  have B2 := B2.mono s1116
  have B3 := B3.mono s1116
  have a1 := s1116 _ _ a1
  have a2 := s1116 _ _ a2
  have a3 := a3.mono s1116
  have b1 := s1116 _ _ b1
  have b2 := s1116 _ _ b2
  have b3 := b3.mono s1116
  have s016 := s011.trans s1116
  clear hpp' hcls s011 s1116 s1115 s1114 s1113 s12 s14 s15 s16 g13 hq15
  -- how many clauses of each
  obtain ⟨x1, y1, rfl, hx1, hy1⟩ := B1.bd.at_
  obtain ⟨x2, y2, rfl, hx2, hy2⟩ := B2.bd.at_
  obtain ⟨x3, y3, rfl, hx3, hy3⟩ := B3.bd.at_
  refine ⟨_, rfl, x1, _, _, _, rfl, rfl, hx1, rfl, y1, _, rfl, .inr hy1, _, rfl, x2, _, _, _, rfl, rfl, hx2, rfl, y2, _, rfl, .inr hy2, by show 2 ≤ sizeLine; decide, fun t17 ht17 => ?_⟩
  rw [List.length_map, List.length_map]
  have g17 := Same.new (o := .tup [.int (as1.length : Nat), .int (as2.length : Nat)]) ht17
  refine ⟨t17, _, rfl, SqT.of upd_same, rfl, _, _, rfl, _, _, rfl, rfl, ?_⟩
  generalize upd H16 t17 (.tup [.int (as1.length : Nat), .int (as2.length : Nat)]) = H17 at g17
  refine ⟨_, rfl, _, rfl, tA, _, _, _, rfl, rfl, g17 _ _ a1, rfl, .ref x1, _, as1, lnA, bA, rfl, B1.mono g17, by omega, g17 _ _ a2, a3.mono g17, by omega, PA.is, fun H18 q1 ls1 s18 hq1 hls1 C1 => ⟨Nat.zero_le _, fun fo hfo => ⟨_, _, rfl, ?_⟩⟩⟩
  have s1618 := g17.trans s18
  have g19 := Same.new (o := .lst []) hfo
  have c1l := C1.len
  refine ⟨_, rfl, q1, rfl, ⟨_, SqT.of (g19 _ _ hq1)⟩, ?_⟩
  refine forA ls1 (fun σ x => (σ.set 14 (some (.ref x.c))).set 15 (some (.ref x.q))) (wkTF ls1 lkr fun x H => H x.t = some (.tup [.ref x.c, .ref x.q])) (fun σ => yTup (t := fun x : Lk => x.t) fun _ => rfl)
    (fun don σ H => ∃ (fs : List Cl) (y14 y15 : Option V), σ = [some (.ref x1), some (.ref x2), some (.ref x3), some (.int ((k : Int) + 1)), some (.ref tA), some (.ref tB), some (.ref tC), y7, y8, some (.ref pp), some (.int (as1.length : Nat)), some (.int (as2.length : Nat)), some (.ref q1), some (.ref fo), y14, y15, none, none, none, none, none, none] ∧ Same H18 H ∧ H fo = some (.lst (fs.map rf)) ∧ CLs H fs ∧ fs.map (·.2) = don.map fun x => x.ps.map (ro1 as1.length as2.length))
    ⟨[], none, none, rfl, g19, upd_same, (fun _ h => nomatch h), rfl⟩ (fun l σ H ⟨_, _, _, _, s, _⟩ => ⟨SqT.of (s _ _ hq1), fun x hx => s _ _ (hls1 x hx).1⟩) ?_ ?_
  · rintro don x r σ H19 H20 e ⟨fs, y14, y15, rfl, s19, hf19, hfs19, efs⟩ s20
    have hx : x ∈ ls1 := by rw [e]; exact List.mem_append_right _ List.mem_cons_self
    obtain ⟨z1, z2, z3⟩ := hls1 x hx
    have hf20 := s20 _ _ hf19
    have hq20 := (s19.trans s20) _ _ z3
    have fl : fs.length = don.length := by have := congrArg List.length efs; simpa using this
    have dl : don.length < ls1.length := by rw [e, List.length_append, List.length_cons]; omega
    refine ⟨_, rfl, .inl ⟨rfl, _, SqL.of hf20⟩, _, rfl, x.q, rfl, ⟨_, SqT.of hq20⟩, ?_⟩
    refine lcV0 x.ps _ (wkT x.ps V.int) yName (fun a => .int (ro1 as1.length as2.length a)) (by have := C1.short x hx; omega) (by intro _; rfl) (fun H h => SqT.of (h _ _ hq20)) ?_ ?_
    · intro a ha H21 s21 Qe q
      refine ⟨_, rfl, _, rfl, _, _, rfl, rfl, _, rfl, ite2 (fun h => ?_) (fun h => ?_)⟩
      · have h := of_decide_eq_true h
        have e2 : ro1 as1.length as2.length a = a := if_pos h
        refine ⟨_, rfl, ?_⟩
        have := q _ (Same.refl _)
        rwa [e2] at this
      · have h : ¬ a < (as1.length : Int) := fun z => h (decide_eq_true z)
        have e2 : ro1 as1.length as2.length a = a + as2.length := if_neg h
        refine ⟨_, rfl, _, rfl, _, _, rfl, rfl, ?_⟩
        have := q _ (Same.refl _)
        rwa [e2] at this
    intro D21 H21 _ s21 h21
    refine ⟨D21, _, rfl, h21, fun q22 hq22 => ?_⟩
    have em : (x.ps.map fun a => V.int (ro1 as1.length as2.length a)) = (x.ps.map (ro1 as1.length as2.length)).map V.int := by rw [List.map_map]; rfl
    rw [em]
    have g22 := Same.new (o := .tup ((x.ps.map (ro1 as1.length as2.length)).map V.int)) hq22
    have s2022 := s21.trans g22
    refine ⟨fo, _, _, rfl, rfl, s2022 _ _ hf20, sz_lt (by rw [List.length_map]; omega), ?_⟩
    have ef : fs.map rf ++ [V.ref q22] = (fs ++ [((q22, x.ps.map (ro1 as1.length as2.length)) : Cl)]).map rf := by rw [List.map_append]; rfl
    rw [ef]
    refine ⟨fs ++ [((q22, x.ps.map (ro1 as1.length as2.length)) : Cl)], _, _, rfl, Same.mut (s19.trans (s20.trans s2022)) hfo, upd_same, fun y hy => ?_, by rw [List.map_append, List.map_append, efs]; rfl⟩
    have nf : ∀ (a : Addr) (zs : List V), upd H21 q22 (.tup ((x.ps.map (ro1 as1.length as2.length)).map V.int)) a = some (.tup zs) → a ≠ fo := fun a zs h => ne_of h (s2022 _ _ hf20) (by intro z; cases z)
    rcases List.mem_append.mp hy with hy | hy
    · have h1 := s2022 _ _ (s20 _ _ (hfs19 y hy))
      rw [upd_ne (nf _ _ h1)]; exact h1
    · rw [List.mem_singleton.mp hy, upd_ne (nf _ _ upd_same)]; exact upd_same
  rintro σ H22 ⟨fs, y14, y15, rfl, s22, hf22, hfs22, efs⟩
  have fl1 : fs.length = ls1.length := by have := congrArg List.length efs; simpa using this
  refine ⟨_, rfl, _, rfl, _, _, rfl, rfl, _, rfl, q1, _, rfl, .inr (s22 _ _ hq1), _, _, rfl, rfl, ?_⟩
  rw [List.length_map]
  have s1622 := s1618.trans s22
  refine ⟨_, rfl, _, rfl, tB, _, _, _, rfl, rfl, s1622 _ _ b1, rfl, .ref x2, _, as2, lnB, bB, rfl, B2.mono s1622, by omega, s1622 _ _ b2, b3.mono s1622, by omega, PB.is, fun H23 q2 ls2 s23 hq2 hls2 C2 => ?_⟩
  have c2l := C2.len
  have hf23 := s23 _ _ hf22
  refine ⟨q2, rfl, ⟨_, SqT.of hq2⟩, ?_⟩
  -- what is kept beside the list
  have hf0 : ∀ {H : Hp}, Same H18 H → H18 fo = none := fun _ => hfo
  refine forA ls2 (fun σ x => (σ.set 14 (some (.ref x.c))).set 15 (some (.ref x.q))) (wkTF ls2 lkr fun x H => H x.t = some (.tup [.ref x.c, .ref x.q])) (fun σ => yTup (t := fun x : Lk => x.t) fun _ => rfl)
    (fun don σ H => ∃ (gs : List Cl) (y14 y15 : Option V), σ = [some (.ref x1), some (.ref x2), some (.ref x3), some (.int ((k : Int) + 1)), some (.ref tA), some (.ref tB), some (.ref tC), y7, y8, some (.ref pp), some (.int (as1.length : Nat)), some (.int (as2.length : Nat)), some (.ref q1), some (.ref fo), y14, y15, none, some (.int ((as1.length : Int) + as2.length + ls1.length)), none, none, none, none] ∧ Same H18 H ∧ (∀ a zs, H23 a = some (.tup zs) → H a = some (.tup zs)) ∧ H fo = some (.lst ((fs ++ gs).map rf)) ∧ CLs H (fs ++ gs) ∧ gs.map (·.2) = don.map fun x => x.ps.map (ro2 as1.length as2.length ((as1.length : Int) + as2.length + ls1.length)))
    ⟨[], _, _, rfl, s22.trans s23, fun _ _ h => h, by rw [List.append_nil]; exact hf23, by rw [List.append_nil]; exact hfs22.mono s23, rfl⟩ (fun l σ H ⟨_, _, _, _, _, s, _⟩ => ⟨SqT.of (s _ _ hq2), fun x hx => s _ _ (hls2 x hx).1⟩) ?_ ?_
  · rintro don x r σ H24 H25 e ⟨gs, y14, y15, rfl, s24, t24, hf24, hfs24, egs⟩ s25
    have hx : x ∈ ls2 := by rw [e]; exact List.mem_append_right _ List.mem_cons_self
    obtain ⟨z1, z2, z3⟩ := hls2 x hx
    have hf25 := s25 _ _ hf24
    have hq25 := s25 _ _ (t24 _ _ z3)
    have gl : gs.length = don.length := by have := congrArg List.length egs; simpa using this
    have dl : don.length < ls2.length := by rw [e, List.length_append, List.length_cons]; omega
    refine ⟨_, rfl, .inl ⟨rfl, _, SqL.of hf25⟩, _, rfl, x.q, rfl, ⟨_, SqT.of hq25⟩, ?_⟩
    refine lcV0 x.ps _ (wkT x.ps V.int) yName (fun a => .int (ro2 as1.length as2.length ((as1.length : Int) + as2.length + ls1.length) a)) (by have := C2.short x hx; omega) (by intro _; rfl) (fun H h => SqT.of (h _ _ hq25)) ?_ ?_
    · intro a ha H21 s21 Qe q
      refine ⟨_, rfl, _, rfl, _, _, rfl, rfl, _, rfl, ite2 (fun h => ?_) (fun h => ?_)⟩
      · have h := of_decide_eq_true h
        have e2 : ro2 as1.length as2.length ((as1.length : Int) + as2.length + ls1.length) a = a + as1.length := if_pos h
        refine ⟨_, rfl, _, rfl, _, _, rfl, rfl, ?_⟩
        have := q _ (Same.refl _)
        rwa [e2] at this
      · have h : ¬ a < (as2.length : Int) := fun z => h (decide_eq_true z)
        have e2 : ro2 as1.length as2.length ((as1.length : Int) + as2.length + ls1.length) a = a - as2.length + ((as1.length : Int) + as2.length + ls1.length) := if_neg h
        refine ⟨_, rfl, _, rfl, _, _, rfl, rfl, _, rfl, _, _, rfl, rfl, ?_⟩
        have := q _ (Same.refl _)
        rwa [e2] at this
    intro D21 H21 _ s21 h21
    refine ⟨D21, _, rfl, h21, fun q22 hq22 => ?_⟩
    have em : (x.ps.map fun a => V.int (ro2 as1.length as2.length ((as1.length : Int) + as2.length + ls1.length) a)) = (x.ps.map (ro2 as1.length as2.length ((as1.length : Int) + as2.length + ls1.length))).map V.int := by rw [List.map_map]; rfl
    rw [em]
    have g22 := Same.new (o := .tup ((x.ps.map (ro2 as1.length as2.length ((as1.length : Int) + as2.length + ls1.length))).map V.int)) hq22
    have s2522 := s21.trans g22
    refine ⟨fo, _, _, rfl, rfl, s2522 _ _ hf25, sz_lt (by rw [List.length_map, List.length_append]; omega), ?_⟩
    have ef : (fs ++ gs).map rf ++ [V.ref q22] = (fs ++ (gs ++ [((q22, x.ps.map (ro2 as1.length as2.length ((as1.length : Int) + as2.length + ls1.length))) : Cl)])).map rf := by rw [← List.append_assoc, List.map_append (l₁ := fs ++ gs)]; rfl
    rw [ef]
    have nf : ∀ (a : Addr) (zs : List V), upd H21 q22 (.tup ((x.ps.map (ro2 as1.length as2.length ((as1.length : Int) + as2.length + ls1.length))).map V.int)) a = some (.tup zs) → a ≠ fo := fun a zs h => ne_of h (s2522 _ _ hf25) (by intro z; cases z)
    refine ⟨gs ++ [((q22, x.ps.map (ro2 as1.length as2.length ((as1.length : Int) + as2.length + ls1.length))) : Cl)], _, _, rfl, Same.mut (s24.trans (s25.trans s2522)) hfo, fun a zs h => ?_, upd_same, fun y hy => ?_, by rw [List.map_append, List.map_append, egs]; rfl⟩
    · have h1 := s2522 _ _ (s25 _ _ (t24 a zs h))
      rw [upd_ne (nf _ _ h1)]; exact h1
    · rw [← List.append_assoc] at hy
      rcases List.mem_append.mp hy with hy | hy
      · have h1 := s2522 _ _ (s25 _ _ (hfs24 y hy))
        rw [upd_ne (nf _ _ h1)]; exact h1
      · rw [List.mem_singleton.mp hy, upd_ne (nf _ _ upd_same)]; exact upd_same
  rintro σ H26 ⟨gs, y14', y15', rfl, s26, t26, hf26, hfs26, egs⟩
  have gl2 : gs.length = ls2.length := by have := congrArg List.length egs; simpa using this
  -- the last one, and the whole
  have nf26 : ∀ {a : Addr} {zs : List V}, H26 a = some (.tup zs) → a ≠ fo := fun h => ne_of h hf26 (by intro z; cases z)
  have hq1' : H26 q1 = some (.tup (ls1.map lkr)) := s26 _ _ hq1
  have B3' := B3.mono (s1618.trans s26)
  have hx3' := (s1618.trans s26) _ _ hx3
  have hy3' := (s1618.trans s26) _ _ hy3
  refine ⟨_, rfl, .inl ⟨rfl, _, SqL.of hf26⟩, _, rfl, _, rfl, _, _, rfl, rfl, _, rfl, q1, _, rfl, .inr hq1', _, _, rfl, rfl, _, _, rfl, rfl, _, rfl, _, rfl, _, _, rfl, rfl, _, rfl, fo, _, rfl, .inl hf26, _, _, rfl, rfl, _, _, rfl, rfl, by show 2 ≤ sizeLine; decide, fun t27 ht27 => ?_⟩
  rw [List.length_map, List.length_map]
  have jl : (fs ++ gs).length = ls1.length + ls2.length := by rw [List.length_append, fl1, gl2]
  rw [jl]
  obtain ⟨lp, hlp⟩ : ∃ lp : List Int, lp = [(as1.length : Int) + as2.length + (ls1.length : Int) - 1, (as1.length : Int) + as2.length + ((ls1.length + ls2.length : Nat) : Int) - 1] := ⟨_, rfl⟩
  have g27 := Same.new (o := .tup (lp.map V.int)) ht27
  have elp : HO.tup [V.int ((as1.length : Int) + as2.length + (ls1.length : Int) - 1), V.int ((as1.length : Int) + as2.length + ((ls1.length + ls2.length : Nat) : Int) - 1)] = .tup (lp.map V.int) := by rw [hlp]; rfl
  rw [elp]
  refine ⟨fo, _, _, rfl, rfl, g27 _ _ hf26, sz_lt (by rw [List.length_map]; omega), ?_⟩
  obtain ⟨fg, hfg⟩ : ∃ fg : List Cl, fg = fs ++ gs ++ [((t27, lp) : Cl)] := ⟨_, rfl⟩
  have efg : (fs ++ gs).map rf ++ [V.ref t27] = fg.map rf := by rw [hfg, List.map_append (l₁ := fs ++ gs)]; rfl
  rw [efg]
  have kp : ∀ {a : Addr} {zs : List V}, H26 a = some (.tup zs) → upd (upd H26 t27 (.tup (lp.map V.int))) fo (.lst (fg.map rf)) a = some (.tup zs) := fun h => by rw [upd_ne (nf26 h)]; exact g27 _ _ h
  have hfg28 : upd (upd H26 t27 (.tup (lp.map V.int))) fo (.lst (fg.map rf)) fo = some (.lst (fg.map rf)) := upd_same
  have t27fo : t27 ≠ fo := (ne_of_none hf26 ht27).symm
  have hcl28 : CLs (upd (upd H26 t27 (.tup (lp.map V.int))) fo (.lst (fg.map rf))) fg := fun y hy => by
    rw [hfg] at hy
    rcases List.mem_append.mp hy with hy | hy
    · exact kp (hfs26 y hy)
    · rw [List.mem_singleton.mp hy, upd_ne t27fo]; exact upd_same
  have s028 : Same H (upd (upd H26 t27 (.tup (lp.map V.int))) fo (.lst (fg.map rf))) := Same.mut ((s016.trans (s1618.trans s26)).trans g27) (by
    exact (s016.trans s1618).free hfo)
  have hx28 := kp hx3'
  have hy28 := kp hy3'
  have hb28 : CLs (upd (upd H26 t27 (.tup (lp.map V.int))) fo (.lst (fg.map rf))) bs := fun y hy => kp (B3'.bd.cls y hy)
  have B28 : BdS (upd (upd H26 t27 (.tup (lp.map V.int))) fo (.lst (fg.map rf))) (.ref x3) ((k : Int) + 1) bs := ⟨⟨⟨x3, y3, rfl, hx28, hy28⟩, hb28⟩, B3'.lo, B3'.hi, B3'.cl, B3'.len⟩
  -- the chain told anew
  have J := chain_join W eb n1 n2 C1.links C1.last (by intro z; exact C1.ne (List.map_eq_nil_iff.mp z)) C2.links C2.last (by intro z; exact C2.ne (List.map_eq_nil_iff.mp z))
  obtain ⟨L, hL⟩ : ∃ L, L = joined ((k : Int) + 1) (as1.map (·.2)).length (as2.map (·.2)).length (ls1.map lkd) (ls2.map lkd) := ⟨_, rfl⟩
  rw [← hL] at J
  have eL : fg.map (·.2) = L.map (·.2) := by
    rw [hfg, hL, List.map_append, List.map_append, efs, egs, hlp]
    unfold joined
    rw [List.map_append, List.map_append, List.map_map, List.map_map, List.map_map, List.map_map, List.length_map, List.length_map, List.length_map, List.length_map]
    rfl
  have Ll : L.length ≤ 140 := by
    have := congrArg List.length eL
    rw [List.length_map, List.length_map, hfg, List.length_append, jl] at this
    simp at this
    omega
  have Llast : ∃ L0 lq, L = L0 ++ [(([] : List Int), lq)] := by rw [hL]; unfold joined; exact ⟨_, _, rfl⟩
  generalize upd (upd H26 t27 (.tup (lp.map V.int))) fo (.lst (fg.map rf)) = H28 at hfg28 hcl28 s028 hx28 hy28 hb28 B28
  clear hf26 hfs26 t26 kp nf26 hq1' B3' hx3' hy3' s26 g27 ht27 hq1 hls1 hq2 hls2 hfo hf22 hfs22 hf23 s22 s23 s1622 g19 g17 s18
  refine ⟨_, rfl, x3, _, _, _, rfl, rfl, hx28, rfl, y3, _, rfl, .inr hy28, fun wh hwh => ⟨Nat.zero_le _, fun cn hcn => ⟨by show 2 ≤ sizeLine; decide, fun t29 ht29 => ?_⟩⟩⟩
  have g29 := Same.new (o := .lst (bs.map rf)) hwh
  have g30 := Same.new (o := .lst []) hcn
  have g31 := Same.new (o := .tup [.ref wh, .ref cn]) ht29
  refine ⟨t29, _, rfl, SqT.of upd_same, rfl, _, _, rfl, _, _, rfl, rfl, ?_⟩
  have s2831 := g29.trans (g30.trans g31)
  have hw31 := (g30.trans g31) _ _ (upd_same (H := H28) (a := wh) (o := .lst (bs.map rf)))
  have hc31 := g31 _ _ (upd_same (H := upd H28 wh (.lst (bs.map rf))) (a := cn) (o := .lst []))
  have nwc : wh ≠ cn := ne_of_none (upd_same (H := H28) (a := wh) (o := .lst (bs.map rf))) hcn
  have hcnH : H28 cn = none := g29.free hcn
  generalize upd (upd (upd H28 wh (.lst (bs.map rf))) cn (.lst [])) t29 (.tup [.ref wh, .ref cn]) = H31 at s2831 hw31 hc31
  refine ⟨_, rfl, fo, rfl, ⟨_, SqL.of (s2831 _ _ hfg28)⟩, ?_⟩
  refine forA fg (fun σ x => σ.set 15 (some (rf x))) (wkL fg rf) (fun σ => yName)
    (fun don σ H => ∃ (ks : List Cl) (ls : List Lk) (y14 y15 y16 y20 y21 : Option V), σ = [some (.ref x1), some (.ref x2), some (.ref x3), some (.int ((k : Int) + 1)), some (.ref tA), some (.ref tB), some (.ref tC), y7, y8, some (.ref pp), some (.int (as1.length : Nat)), some (.int (as2.length : Nat)), some (.ref q1), some (.ref fo), y14, y15, y16, some (.int ((as1.length : Int) + as2.length + ls1.length)), some (.ref wh), some (.ref cn), y20, y21] ∧ Same H28 H ∧ H wh = some (.lst (ks.map rf)) ∧ CLs H ks ∧ ks.map (·.2) = bs.map (·.2) ++ (ls.map lkd).map (·.1) ∧ H cn = some (.lst (ls.map lkr)) ∧ LKs H ls ∧ ls.map lkd = L.take don.length ∧ ∀ c ∈ ks, isCl ((k : Int) + 1) c.2 = true)
    ⟨bs, [], _, _, _, none, none, rfl, s2831, hw31, hb28.mono s2831, by simp, hc31, (fun _ h => nomatch h), by simp, B28.cl⟩ (fun l σ H ⟨_, _, _, _, _, _, _, _, s, _⟩ => SqL.of (s _ _ hfg28)) ?_ ?_
  · rintro don x r σ H32 H33 e ⟨ks, ls, y14, y15, y16, y20, y21, rfl, s32, hw32, hk32, eks, hc32, hl32, els, kcl⟩ s33
    have s2833 := s32.trans s33
    have hxm : x ∈ fg := by rw [e]; exact List.mem_append_right _ List.mem_cons_self
    have hx33 := s2833 _ _ (hcl28 x hxm)
    have hw33 := s33 _ _ hw32
    have hk33 := hk32.mono s33
    have hc33 := s33 _ _ hc32
    have hl33 := hl32.mono s33
    -- the link it stands for
    obtain ⟨j, hj, hj2⟩ : ∃ j, L[don.length]? = some j ∧ j.2 = x.2 := by
      have h1 : (fg.map (·.2))[don.length]? = some x.2 := by rw [e, List.map_append, List.getElem?_append_right (by rw [List.length_map]; exact Nat.le_refl _), List.length_map, Nat.sub_self]; rfl
      rw [eL, List.getElem?_map] at h1
      exact Option.map_eq_some_iff.mp h1
    have hsp : L = L.take don.length ++ j :: L.drop (don.length + 1) := by
      obtain ⟨hlt, hge⟩ := List.getElem?_eq_some_iff.mp hj
      rw [← hge, List.getElem_cons_drop, List.take_append_drop]
    have dlt : don.length < L.length := (List.getElem?_eq_some_iff.mp hj).1
    have hlk := linksOk_at (hsp ▸ J)
    rw [← els, ← eks, hj2] at hlk
    unfold linkOk at hlk
    simp only [Bool.and_eq_true, decide_eq_true_eq] at hlk
    obtain ⟨⟨⟨o1, o2⟩, o3⟩, o4⟩ := hlk
    have kl : ks.length ≤ 200 := by
      have h1 := congrArg List.length eks
      have h2 := congrArg List.length els
      rw [List.length_map, List.length_append, List.length_map, List.length_map, List.length_map] at h1
      rw [List.length_map, List.length_take] at h2
      omega
    have lsl : ls.length ≤ 140 := by
      have h2 := congrArg List.length els
      rw [List.length_map, List.length_take] at h2
      omega
    obtain ⟨xa, xps⟩ := x
    match xps, o4, hx33, hj2 with
    | p0 :: rp, o4, hx33, hj2 =>
    have o4 : rp.foldl (gstep (ks.map (·.2))) (atI (ks.map (·.2)) p0) = some j.1 := o4
    cases e0 : atI (ks.map (·.2)) p0 with
    | none => rw [e0, gstep_none] at o4; cases o4
    | some x0 =>
    rw [e0] at o4
    obtain ⟨z0, hz0, ez0, hat0⟩ := at_map e0
    refine ⟨_, rfl, _, rfl, xa, _, 0, .int p0, rfl, rfl, hx33, atI_nat (xs := (p0 :: rp).map V.int) (j := 0) rfl, wh, _, _, _, rfl, rfl, hw33, hat0, ?_⟩
    refine ⟨_, rfl, _, rfl, xa, _, rfl, hx33, fun b34 H34 s34 hb34 => ?_⟩
    have ecut : cutV ((p0 :: rp).map V.int) (some 1) none = rp.map V.int := by rw [cut_tail]; rfl
    rw [ecut] at hb34
    refine ⟨b34, rfl, ⟨_, SqT.of hb34⟩, ?_⟩
    refine forA rp (fun σ i => σ.set 16 (some (.int i))) (wkT rp V.int) (fun σ => yName) (fun done σ H => ∃ (f : Addr) (xs : List Int) (z16 z21 : Option V), σ = [some (.ref x1), some (.ref x2), some (.ref x3), some (.int ((k : Int) + 1)), some (.ref tA), some (.ref tB), some (.ref tC), y7, y8, some (.ref pp), some (.int (as1.length : Nat)), some (.int (as2.length : Nat)), some (.ref q1), some (.ref fo), y14, some (rf (xa, p0 :: rp)), z16, some (.int ((as1.length : Int) + as2.length + ls1.length)), some (.ref wh), some (.ref cn), some (.ref f), z21] ∧ Same H34 H ∧ H f = some (.tup (xs.map V.int)) ∧ isCl ((k : Int) + 1) xs = true ∧ done.foldl (gstep (ks.map (·.2))) (some x0) = some xs)
      ⟨z0.1, x0, _, _, rfl, Same.refl _, by rw [← ez0]; exact s34 _ _ (hk33 z0 hz0), by rw [← ez0]; exact kcl z0 hz0, rfl⟩ (fun l σ H ⟨_, _, _, _, _, s, _⟩ => SqT.of (s _ _ hb34)) ?_ ?_
    · rintro done i r3 σ H35 H36 e3 ⟨f, xs, z16, z21, rfl, s35, hf35, fcl, hd⟩ s36
      have s3336 := s34.trans (s35.trans s36)
      rw [e3, List.foldl_append, hd] at o4
      have o4 : r3.foldl (gstep (ks.map (·.2))) ((atI (ks.map (·.2)) i).bind fun y => metBy xs y) = some j.1 := o4
      cases e1 : atI (ks.map (·.2)) i with
      | none => rw [e1] at o4; rw [show (none.bind fun y => metBy xs y) = (none : Option (List Int)) from rfl, gstep_none] at o4; cases o4
      | some wv =>
      rw [e1] at o4
      have o4 : r3.foldl (gstep (ks.map (·.2))) (metBy xs wv) = some j.1 := o4
      obtain ⟨z1, hz1, ez1, hat1⟩ := at_map e1
      have wcl := kcl z1 hz1
      rw [ez1] at wcl
      have xl1 := isCl_len (by omega) fcl
      have xl2 := isCl_len (by omega) wcl
      cases em : metBy xs wv with
      | none => rw [em, gstep_none] at o4; cases o4
      | some nx =>
      obtain ⟨xx, exx⟩ : ∃ xx, contr xs wv = [xx] := by
        unfold metBy at em
        split at em
        · rename_i q hq; exact ⟨q, hq⟩
        · cases em
      have hf36 := s36 _ _ hf35
      have hz36 : H36 z1.1 = some (.tup (wv.map V.int)) := by rw [← ez1]; exact s3336 _ _ (hk33 z1 hz1)
      have hw36 := s3336 _ _ hw33
      refine ⟨_, rfl, f, rfl, ⟨_, SqT.of hf36⟩, ?_⟩
      refine lcV xs _ (wkT xs V.int) yName (fun l => decide (0 - l ∈ wv)) V.int (by omega) (by intro _; rfl) (fun H h => SqT.of (h _ _ hf36)) ?_ ?_ ?_
      · intro l hl H37 s37 Qb qb
        exact ⟨_, rfl, _, _, rfl, rfl, _, rfl, _, rfl, wh, _, _, _, rfl, rfl, s37 _ _ hw36, hat1, 0 - l, z1.1, wv, rfl, rfl, .inr (s37 _ _ hz36), _, rfl, qb _ (Same.refl _)⟩
      · intro l hl _ H37 s37 Qe q
        exact ⟨_, rfl, q _ (Same.refl _)⟩
      intro D37 H37 _ s37 h37
      have h37 : H37 D37 = some (.lst ((contr xs wv).map V.int)) := h37
      rw [exx] at h37
      refine ⟨_, rfl, D37, _, rfl, .inl h37, rfl, _, rfl, iteF ?_⟩
      have hf37 := s37 _ _ hf36
      have hz37 := s37 _ _ hz36
      have hw37 := s37 _ _ hw36
      refine ⟨_, rfl, f, rfl, ⟨_, SqT.of hf37⟩, ?_⟩
      refine lcV xs _ (wkT xs V.int) yName (fun l => !decide (l = xx)) V.int (by omega) (by intro _; rfl) (fun H h => SqT.of (h _ _ hf37)) ?_ ?_ ?_
      · intro l hl H38 s38 Qb qb
        refine ⟨_, rfl, _, rfl, D37, _, 0, .int xx, rfl, rfl, s38 _ _ h37, rfl, rfl, _, rfl, ?_⟩
        rw [dec_int]
        exact qb _ (Same.refl _)
      · intro l hl _ H38 s38 Qe q
        exact ⟨_, rfl, q _ (Same.refl _)⟩
      intro D38 H38 _ s38 h38
      have hz38 := s38 _ _ hz37
      have hD38 := s38 _ _ h37
      refine ⟨_, rfl, _, rfl, wh, _, _, _, rfl, rfl, s38 _ _ hw37, hat1, z1.1, rfl, ⟨_, SqT.of hz38⟩, ?_⟩
      refine lcV wv _ (wkT wv V.int) yName (fun l => !decide (l = 0 - xx)) V.int (by omega) (by intro _; rfl) (fun H h => SqT.of (h _ _ hz38)) ?_ ?_ ?_
      · intro l hl H39 s39 Qb qb
        refine ⟨_, rfl, _, rfl, D37, _, 0, .int xx, rfl, rfl, s39 _ _ hD38, rfl, _, _, rfl, rfl, rfl, _, rfl, ?_⟩
        rw [dec_int]
        exact qb _ (Same.refl _)
      · intro l hl _ H39 s39 Qe q
        exact ⟨_, rfl, q _ (Same.refl _)⟩
      intro D39 H39 _ s39 h39
      have q1l := List.length_filter_le (fun l => !decide (l = xx)) xs
      have q2l := List.length_filter_le (fun l => !decide (l = 0 - xx)) wv
      refine ⟨D38, D39, _, _, rfl, rfl, s39 _ _ h38, h39, Nat.le_of_lt (sz_lt (by rw [List.length_map, List.length_map]; omega)), fun F40 hF40 => ?_⟩
      rw [← List.map_append]
      have g40 := Same.new (o := .lst ((xs.filter (fun l => !decide (l = xx)) ++ wv.filter (fun l => !decide (l = 0 - xx))).map V.int)) hF40
      refine ⟨F40, _, rfl, .inl upd_same, by rw [List.length_append]; omega, fun q41 H41 s41 _ hq41 => ⟨q41, _, rfl, hq41, fun q42 hq42 => ?_⟩⟩
      have enx : nx = sset (xs.filter (fun l => !decide (l = xx)) ++ wv.filter (fun l => !decide (l = 0 - xx))) := by
        unfold metBy at em
        rw [exx] at em
        exact (Option.some.inj em).symm
      refine ⟨q42, nx, _, _, rfl, s35.trans (s36.trans (s37.trans (s38.trans (s39.trans (g40.trans (s41.trans (Same.new hq42))))))), by rw [enx]; exact upd_same, metBy_cl fcl wcl em, ?_⟩
      rw [List.foldl_append, hd]
      show (atI (ks.map (·.2)) i).bind (fun y => metBy xs y) = _
      rw [e1]; exact em
    · rintro σ H35 ⟨f, xs, z16, z21, rfl, s35, hf35, fcl, hd⟩
      rw [hd] at o4
      have exj : xs = j.1 := Option.some.inj o4
      have s3335 := s34.trans s35
      have hw35 := s3335 _ _ hw33
      have hc35 := s3335 _ _ hc33
      refine ⟨_, rfl, .inl ⟨rfl, _, SqL.of hw35⟩, _, rfl, wh, _, _, rfl, rfl, hw35, sz_lt (by rw [List.length_map]; omega), ?_⟩
      have ek : ks.map rf ++ [V.ref f] = (ks ++ [((f, xs) : Cl)]).map rf := by rw [List.map_append]; rfl
      rw [ek]
      have nw : ∀ {a : Addr} {o : HO}, H35 a = some o → a ≠ wh → upd H35 wh (.lst ((ks ++ [((f, xs) : Cl)]).map rf)) a = some o := fun h n => by rw [upd_ne n]; exact h
      have nwt : ∀ {a : Addr} {zs : List V}, H35 a = some (.tup zs) → upd H35 wh (.lst ((ks ++ [((f, xs) : Cl)]).map rf)) a = some (.tup zs) := fun h => nw h (ne_of h hw35 (by intro z; cases z))
      have hc36 := nw hc35 nwc.symm
      have S36 : Same H28 (upd H35 wh (.lst ((ks ++ [((f, xs) : Cl)]).map rf))) := Same.mut (s2833.trans s3335) hwh
      have hw36 : upd H35 wh (.lst ((ks ++ [((f, xs) : Cl)]).map rf)) wh = some (.lst ((ks ++ [((f, xs) : Cl)]).map rf)) := upd_same
      have hk36 : CLs (upd H35 wh (.lst ((ks ++ [((f, xs) : Cl)]).map rf))) (ks ++ [((f, xs) : Cl)]) := fun y hy => by
        rcases List.mem_append.mp hy with hy | hy
        · exact nwt (s3335 _ _ (hk33 y hy))
        · rw [List.mem_singleton.mp hy]; exact nwt hf35
      have hl36 : LKs (upd H35 wh (.lst ((ks ++ [((f, xs) : Cl)]).map rf))) ls := fun y hy => ⟨nwt (s3335 _ _ (hl33 y hy).1), nwt (s3335 _ _ (hl33 y hy).2.1), nwt (s3335 _ _ (hl33 y hy).2.2)⟩
      have hf36 := nwt hf35
      have hx36 := nwt (s3335 _ _ hx33)
      generalize upd H35 wh (.lst ((ks ++ [((f, xs) : Cl)]).map rf)) = H36 at hc36 S36 hw36 hk36 hl36 hf36 hx36
      refine ⟨_, rfl, .inl ⟨rfl, _, SqL.of hc36⟩, _, rfl, _, rfl, by show 2 ≤ sizeLine; decide, fun t37 ht37 => ?_⟩
      have g37 := Same.new (o := .tup [.ref f, .ref xa]) ht37
      refine ⟨cn, _, _, rfl, rfl, g37 _ _ hc36, sz_lt (by rw [List.length_map]; omega), ?_⟩
      have el : ls.map lkr ++ [V.ref t37] = (ls ++ [Lk.mk t37 f xa xs (p0 :: rp)]).map lkr := by rw [List.map_append]; rfl
      rw [el]
      have nct : ∀ {a : Addr} {zs : List V}, upd H36 t37 (.tup [.ref f, .ref xa]) a = some (.tup zs) → upd (upd H36 t37 (.tup [.ref f, .ref xa])) cn (.lst ((ls ++ [Lk.mk t37 f xa xs (p0 :: rp)]).map lkr)) a = some (.tup zs) := fun h => by rw [upd_ne (ne_of h (g37 _ _ hc36) (by intro z; cases z))]; exact h
      refine ⟨ks ++ [((f, xs) : Cl)], ls ++ [Lk.mk t37 f xa xs (p0 :: rp)], _, _, _, _, _, rfl, Same.mut (S36.trans g37) hcnH, by rw [upd_ne nwc]; exact g37 _ _ hw36, fun y hy => nct (g37 _ _ (hk36 y hy)), ?_, upd_same, fun y hy => ?_, ?_, fun c hc => ?_⟩
      · rw [List.map_append, eks, List.append_assoc, List.map_append (l₁ := ls), List.map_append]; rfl
      · rcases List.mem_append.mp hy with hy | hy
        · exact ⟨nct (g37 _ _ (hl36 y hy).1), nct (g37 _ _ (hl36 y hy).2.1), nct (g37 _ _ (hl36 y hy).2.2)⟩
        · rw [List.mem_singleton.mp hy]
          exact ⟨nct upd_same, nct (g37 _ _ hf36), nct (g37 _ _ hx36)⟩
      · rw [List.map_append, els, List.length_append]
        show _ = L.take (don.length + 1)
        rw [List.take_add_one, hj]
        have : lkd (Lk.mk t37 f xa xs (p0 :: rp)) = j := by
          show (xs, p0 :: rp) = j
          have hj3 : j.2 = p0 :: rp := hj2
          rw [exj, ← hj3]
        rw [List.map_cons, this]; rfl
      · rcases List.mem_append.mp hc with hc | hc
        · exact kcl c hc
        · rw [List.mem_singleton.mp hc]; exact fcl
  · rintro σ H40 ⟨ks, ls, y14, y15, y16, y20, y21, rfl, s40, hw40, hk40, eks, hc40, hl40, els, kcl⟩
    have fgl : fg.length = L.length := by have := congrArg List.length eL; simpa using this
    rw [fgl, List.take_length] at els
    obtain ⟨L0, lq, eL0⟩ := Llast
    have els' := els
    rw [eL0] at els'
    obtain ⟨l0, lx, e1, e2, e3⟩ := List.map_eq_append_iff.mp els'
    obtain ⟨lk, lr, e4, e5, e6⟩ := List.map_eq_cons_iff.mp e3
    have e7 : lr = [] := List.map_eq_nil_iff.mp e6
    rw [e7] at e4
    rw [e4] at e1
    have lki : lk.its = [] := congrArg Prod.fst e5
    have lkm : lk ∈ ls := by rw [e1]; exact List.mem_append_right _ List.mem_cons_self
    obtain ⟨z1, z2, z3⟩ := hl40 lk lkm
    rw [lki] at z2
    have hat : atI (ls.map lkr) (-1) = some (lkr lk) := by rw [e1, List.map_append]; exact at_last _ _
    refine ⟨_, rfl, _, rfl, cn, _, _, _, rfl, rfl, hc40, hat, lk.t, _, _, _, rfl, rfl, z1, rfl, Nat.zero_le _, fun e he => ?_⟩
    have ge := Same.new (o := .tup []) he
    refine ⟨lk.c, e, _, rfl, rfl, .inr ⟨ge _ _ z2, upd_same⟩, dd_ints [], _, rfl, iteT ?_⟩
    refine ⟨_, rfl, _, rfl, cn, _, rfl, ge _ _ hc40, fun q41 hq41 => ?_⟩
    have g41 := Same.new (o := .tup (ls.map lkr)) hq41
    have s2841 := s40.trans (ge.trans g41)
    have lsl : ls.length ≤ 140 := by
      have h2 := congrArg List.length els
      rw [List.length_map] at h2
      omega
    refine ⟨.ref x3, _, bs, q41, ls, rfl, B28.mono s2841, by omega, upd_same, hl40.mono (ge.trans g41), (by rw [e1]; simp), by omega, fun y hy => ?_, ?_, fun H42 s42 => ⟨_, _, rfl, rfl, ?_⟩⟩
    · have h1 : lkd y ∈ L := by rw [← els]; exact List.mem_map_of_mem hy
      have h2 : y.ps ∈ fg.map (·.2) := by rw [eL]; exact List.mem_map.mpr ⟨_, h1, rfl⟩
      rw [hfg, List.map_append, List.map_append, efs, egs] at h2
      rcases List.mem_append.mp h2 with h2 | h2
      · rcases List.mem_append.mp h2 with h2 | h2
        · obtain ⟨u, hu, eu⟩ := List.mem_map.mp h2
          rw [← eu, List.length_map]
          have := C1.short u hu; omega
        · obtain ⟨u, hu, eu⟩ := List.mem_map.mp h2
          rw [← eu, List.length_map]
          have := C2.short u hu; omega
      · have h2 : y.ps = lp := List.mem_singleton.mp h2
        rw [h2, hlp]
        exact Nat.le_of_ble_eq_true rfl
    · rw [els]
      refine linksOk_chain J ?_
      rw [eL0, List.map_append, ← List.append_assoc]
      simp
    · rw [decide_eq_true rfl]
      exact kk _ (s028.trans (s2841.trans s42))
end
end Nt
set_option maxRecDepth 100000
set_option maxHeartbeats 1000000
/-! NtJ5: one bundle or the other: the law. -/
namespace Nt
open PySem PySem.Spec PyProof.Rows L2
theorem Same.lst {K : PySem.W.Frag} {H H' : Hp} {a : Addr} {xs : List V} (e : Same H H') (h : SqL K H a xs) : SqL K H' a xs := by
  rcases h with (h | ⟨o, h⟩) | h
  · exact .inl (.inl (e _ _ h))
  · exact .inl (.inr ⟨o, e _ _ h⟩)
  · exact .inr h
theorem Same.ke {p : Addr} {H0 H H1 H' : Hp} (s : Same H0 H) (n : H p = none) (s1 : Same H H1) (k : Ke p H1 H') : Same H0 H' := fun y o e =>
  k y o (fun z => by rw [← z, s y o e] at n; cases n) (s1 y o (s y o e))
def sp_law (K : PySem.W.Frag) : Sp := fun vs H Q _ => ∃ (a : Addr) (ns : List Int), vs = [.ref a] ∧ SqL K H a (ns.map V.int) ∧ ns.length ≤ 63 ∧ ∀ H', Q (.bl true) H'
theorem len_law (K : PySem.W.Frag) : ∀ vs H Q E, sp_law K vs H Q E → vs.length = 1 := by
  rintro vs H Q E ⟨a, ns, rfl, _⟩; rfl
section
variable {P : Program} {w : World} {K : PySem.W.Frag} {mg : Str → Option Value} {base : Heap}
theorem sc_law : FnScope ["script", "place", "pot", "lap"] ["script"] (defScope s_law) := ⟨rfl, rfl, rfl, by decide +kernel, rfl, by decide +kernel, by decide +kernel⟩
theorem ok_law (T : Tx K mg) (C_law_cells : CalF P w K mg base ("_law_cells", none) 1 ["script", "most"] (sp_law_cells K)) (C_law_pot : CalF P w K mg base ("_law_pot", none) 1 ["script", "place"] (sp_law_pot K)) (C_law_right : CalG P w K mg base ("_law_right", none) 9 ["pot"] (sp_law_right K)) : CalLG P w K mg base d_law 10 ["script"] (sp_law K) := by
  have mg_all : mg "all" = none := T.free 55
  have mg_range : mg "range" = none := T.free 66
  obtain ⟨fd_law_cells, b_law_cells, G_law_cells, kp_law_cells⟩ := C_law_cells
  obtain ⟨fd_law_pot, b_law_pot, G_law_pot, kp_law_pot⟩ := C_law_pot
  obtain ⟨fd_law_right, b_law_right, G_law_right, kp_law_right⟩ := C_law_right
  have mg_law_cells : mg "_law_cells" = some (.ref (He.ga K "_law_cells")) := T.glo 45
  have mg_law_pot : mg "_law_pot" = some (.ref (He.ga K "_law_pot")) := T.glo 41
  have mg_law_right : mg "_law_right" = some (.ref (He.ga K "_law_right")) := T.glo 51
  refine calLG T (d := d_law) 73 rfl sc_law rfl rfl (fun _ _ _ _ _ _ us hl => match us, hl with | [_], _ => rfl) (len_law K) ?_
  intro cdv A outer s H vs Q E gd hr h
  have hu := hu_of hr
  obtain ⟨a, ns, rfl, ha, hl, k⟩ := h
  refine ⟨_, (pss_cons (ps_for PassesOwn.never rfl (pi_listK (K := K) rfl (pe_call G_law_cells (hr.mono (by decide)) (by rfl) mg_law_cells kp_law_cells b_law_cells .nil pass0 (pa_cons (pv 0) (pa_cons pe_int pa_nil)))) (pg_name (i := 1) sc_law.nd rfl (Or.inl rfl)) (pss_cons (ps_set (i := 2) sc_law.nd rfl (Or.inr rfl) (pe_call G_law_pot (hr.mono (by decide)) (by rfl) mg_law_pot kp_law_pot b_law_pot .nil pass0 (pa_cons (pv 0) (pa_cons (pv 1) pa_nil))))
      (pss_one (ps_if (pt_not (pt_val (pe_callB (cr_all2 rfl) (by rfl) mg_all bt_all (pa_cons (pe_lc (own := [("lap", 3)]) (g := gName 3) (tt := tYes) rfl sc_law.nd (pi_range1 (by rfl) mg_range (pa_cons pe_int pa_nil)) (blkOk_by (by kernel_rfl)) (fun _ _ _ _ _ => (pg_name (i := 3) sc_law.nd rfl (Or.inl rfl))) (fun _ _ _ _ _ => pts_nil) (fun _ _ _ _ _ => (pe_callG G_law_right gd (hr.mono (by decide)) (by rfl) mg_law_right kp_law_right b_law_right .nil pass0 (pa_cons (pv 2) pa_nil)))) pa_nil)))) (pss_one (ps_ret pe_bl)) pss_nil))))
      (pss_one (ps_ret pe_bl))), ?_⟩
  refine ⟨_, rfl, a, ns, rfl, ha, hl, fun H1 q m s1 hq hm => ?_⟩
  refine ⟨q, rfl, ⟨_, SqL.of hq⟩, ?_⟩
  refine forA (List.range m) (fun σ i => σ.set 1 (some (.int (0 + (i : Nat))))) (wkL (List.range m) fun i => V.int (0 + (i : Nat))) (fun σ => yName) (fun don σ H2 => ∃ y z, σ = [some (.ref a), y, z, none] ∧ Same H1 H2) ⟨none, none, rfl, Same.refl _⟩ (fun l σ H2 ⟨_, _, _, s⟩ => SqL.of (s _ _ hq)) ?_ ?_
  · rintro don i r σ H3 H4 e ⟨y, z, rfl, s3⟩ s4
    have hi : i < 3 := by
      have : i ∈ List.range m := by rw [e]; exact List.mem_append_right _ List.mem_cons_self
      have := List.mem_range.mp this
      omega
    refine ⟨_, rfl, _, rfl, a, ns, i, rfl, Same.lst (s1.trans (s3.trans s4)) ha, hl, hi, fun H5 p s5 hp P5 => ?_⟩
    refine ⟨5, rfl, by decide, by decide, ?_⟩
    refine lcG ((List.range 5).map fun (i : Nat) => (0 : Int) + (i : Int)) V.int (wkR (lo := 0) (n := 5)) (fun l ys H => Ke p H5 H ∧ Pot H p (1000000 - 9000 * l.length) ∧ ys = l.map fun _ => V.bl true) (by decide) (by intro _; rfl) (fun D0 hD => ⟨Ke.new hD, P5.same (Same.new hD), rfl⟩) (fun _ _ _ _ => trivial) ?_ ?_
    · rintro D0 l x r2 ys H7 eq hD0 ⟨K7, P7, rfl⟩ hD7 Qe qe
      have hl5 : l.length < 5 := by
        have := congrArg List.length eq
        rw [List.length_map, List.length_range, List.length_append, List.length_cons] at this
        omega
      have hDp : D0 ≠ p := fun z => by
        obtain ⟨a, b, c, hp, _⟩ := P5
        rw [← z, hD0] at hp
        cases hp
      refine ⟨_, rfl, p, 1000000 - 9000 * (l.length + 1), rfl, P7.less (by omega), fun H8 K8 P8 => ?_⟩
      refine qe _ H8 (K8 _ _ hDp hD7) ⟨fun y o ny ey => by rw [upd_ne (ne_of_none ey hD0)]; exact (K7.trans K8) y o ny ey, ?_, by rw [List.map_append]; rfl⟩
      rw [List.length_append]
      obtain ⟨a2, b2, c2, q1, q2⟩ := P8
      exact ⟨a2, b2, c2, by rw [upd_ne hDp.symm]; exact q1, q2⟩
    · rintro D0 ys H7 hD0 ⟨K7, P7, rfl⟩ hD7
      refine ⟨D0, Int, (List.range 5).map fun (i : Nat) => (0 : Int) + (i : Int), fun _ => true, rfl, hD7, _, rfl, ?_⟩
      rw [List.all_eq_true.mpr fun _ _ => rfl]
      refine iteF ?_
      exact ⟨_, _, rfl, Same.ke (s3.trans s4) hp s5 K7⟩
  · rintro σ H3 ⟨y, z, rfl, s3⟩
    exact k _
end
end Nt
set_option maxRecDepth 100000
set_option maxHeartbeats 0
/-! NtZg: the head, the law (no guard standing). -/
namespace Nt
open PySem PySem.Spec PyProof.Rows L2
abbrev R : PySem.W.OpenRow := PySem.W.OpenLaw.row PySem.Challenge.rw_nosuchthings_k03_whole_one_bundle_or_the
def nm0 : List PySem.Str := ["SayingError", "BadBundle", "BadGiven", "BadPaper", "TooMany", "is_integer", "is_between", "is_ascending", "MOST_NUMBERS", "MOST_CLAUSES", "is_clause", "is_bundle", "check_bundle", "are_values_of", "do_hold", "Units", "is_given", "units_told", "VALUES", "PAPER", "Search", "solve", "solve_up", "can_hold", "MOST_COUNT", "is_by_units", "are_steps", "is_paper_of", "is_paper", "solve_told"]
def nm1 : List PySem.Str := ["is_solved", "shows_solved", "doubled", "first_open", "turn", "count_by", "groups_of", "head_of", "renamed_clauses", "count_whole", "count_values", "sure_of", "sure_literals", "contrary", "met_by", "Traced", "is_trivial", "chain_for", "chained_of", "chained", "got_by", "is_link", "is_chain_of", "is_chain", "_law_pot", "_law_take", "_law_of", "_law_some", "_law_cells", "_law_rows"]
def nm2 : List PySem.Str := ["_law_all_hold", "_law_clauses", "_law_with", "_law_is_paper_right", "_law_right"]
def nms : List PySem.Str := nm0 ++ nm1 ++ nm2
abbrev hk : PySem.W.Hook := He.hookD 5 fa fn
def ob (s : PySem.W.SharedT) : He.AlD := He.obsDG 5 fa fn (HandSHeadRun.getT s)
theorem ob_eq (s : PySem.W.SharedT) : ob s = hk.obs s.abs := He.obsDG_eq (HandSHeadRun.getT_eq s)
theorem run (w : World) : HandSHeadRun.RunEq R (PySem.W.view R.prog [72]) hk ob 12000 nms w := by
  intro os
  kernel_rfl

theorem facts {P : Program} {w : World} {K : PySem.W.Frag} {h : Heap} {mg : Str → Option Value} {f : Addr} (X : K.In h) (G : h.Ns mainGlobals mg) (hfa : mg ("law" : Str) = some (.ref f)) (c : He.SaysD fa fn K) :
    ∃ fd : FuncData, (∀ (s : Shared) (v : Value), BindsTo s fd ⟨[v], []⟩ [("script", v)]) ∧ ∀ base : Heap, K.In base → base.Ns mainGlobals mg → FnOkG P w K mg base CX0 10 f fd ["script"] (sp_law K) := by
  have T : Tx K mg := ⟨c, h, X, G⟩
  obtain ⟨fd, F⟩ := c.def_ 73 (d := d_law) rfl
  have e := hfa.symm.trans (T.glo 52 (x := "law"))
  cases e
  have b := FunD.bindsA (ps := ["script"]) F fun _ _ _ _ _ _ us hl => match us, hl with | [_], _ => rfl
  refine ⟨fd, fun s v => b s [v] rfl, fun base _ _ => ?_⟩
  have main : CalLG P w K mg base d_law 10 ["script"] (sp_law K) := by
    have C_law_cells : CalF P w K mg base ("_law_cells", none) 1 ["script", "most"] (sp_law_cells K) := ok_law_cells T 
    have C_law_pot : CalF P w K mg base ("_law_pot", none) 1 ["script", "place"] (sp_law_pot K) := ok_law_pot T 
    have C_is_integer : CalF P w K mg base ("is_integer", none) 1 ["value"] (sp_is_integer K) := ok_is_integer T 
    have C_is_between : CalF P w K mg base ("is_between", none) 2 ["value", "low", "high"] (sp_is_between K) := ok_is_between T C_is_integer
    have C_is_ascending : CalF P w K mg base ("is_ascending", none) 1 ["items"] (sp_is_ascending K) := ok_is_ascending T 
    have C_is_clause : CalF P w K mg base ("is_clause", none) 2 ["many", "value"] (sp_is_clause K) := ok_is_clause T C_is_ascending C_is_integer
    have C_is_bundle : CalF P w K mg base ("is_bundle", none) 3 ["value"] (sp_is_bundle K) := ok_is_bundle T C_is_between C_is_clause
    have C_check_bundle : CalF P w K mg base ("check_bundle", none) 4 ["bundle"] (sp_check_bundle K) := ok_check_bundle T C_is_bundle
    have C_Search_make : CalF P w K mg base ("Search", some "make") 1 ["self", "literal", "clause"] (sp_Search_make K) := ok_Search_make T 
    have C_Search_look : CalF P w K mg base ("Search", some "look") 2 ["self", "clause"] (sp_Search_look K) := ok_Search_look T C_Search_make
    have C_Search_spread : CalF P w K mg base ("Search", some "spread") 3 ["self"] (sp_Search_spread K) := ok_Search_spread T C_Search_look
    have C_Search_decide : CalF P w K mg base ("Search", some "decide") 2 ["self", "literal"] (sp_Search_decide K) := ok_Search_decide T C_Search_make
    have C_Search_choose : CalF P w K mg base ("Search", some "choose") 3 ["self"] (sp_Search_choose K) := ok_Search_choose T C_Search_decide
    have C_Search_learn : CalF P w K mg base ("Search", some "learn") 1 ["self"] (sp_Search_learn K) := ok_Search_learn T 
    have C_Search_back_to : CalF P w K mg base ("Search", some "back_to") 1 ["self", "level"] (sp_Search_back_to K) := ok_Search_back_to T 
    have C_Search_put : CalF P w K mg base ("Search", some "put") 3 ["self", "clause"] (sp_Search_put K) := ok_Search_put T C_Search_look
    have C_Search_mend : CalF P w K mg base ("Search", some "mend") 4 ["self"] (sp_Search_mend K) := ok_Search_mend T C_Search_learn C_Search_back_to C_Search_put
    have C_Search_solve : CalF P w K mg base ("Search", some "solve") 5 ["self"] (sp_Search_solve K) := ok_Search_solve T C_Search_spread C_Search_choose C_Search_mend
    have C_Search_init : CalF P w K mg base ("Search", some "__init__") 4 ["self", "many", "clauses"] (sp_Search_init K) := ok_Search_init T C_Search_put
    have C_solve : CalF P w K mg base ("solve", none) 6 ["many", "clauses"] (sp_solve K) := ok_solve T C_Search_solve C_Search_init
    have C_solve_told : CalF P w K mg base ("solve_told", none) 7 ["bundle"] (sp_solve_told K) := ok_solve_told T C_check_bundle C_solve
    have C_Units_left_of : CalF P w K mg base ("Units", some "left_of") 1 ["self", "clause", "sure"] (sp_Units_left_of K) := ok_Units_left_of T 
    have C_Units_run : CalF P w K mg base ("Units", some "run") 2 ["self", "given"] (sp_Units_run K) := ok_Units_run T C_Units_left_of
    have C_is_by_units : CalF P w K mg base ("is_by_units", none) 3 ["units", "clause"] (sp_is_by_units K) := ok_is_by_units T C_Units_run
    have C_Units_put : CalF P w K mg base ("Units", some "put") 1 ["self", "clause"] (sp_Units_put K) := ok_Units_put T 
    have C_Units_init : CalF P w K mg base ("Units", some "__init__") 2 ["self", "clauses"] (sp_Units_init K) := ok_Units_init T C_Units_put
    have C_are_steps : CalF P w K mg base ("are_steps", none) 4 ["bundle", "steps"] (sp_are_steps K) := ok_are_steps T C_is_by_units C_Units_put C_Units_init
    have C_is_paper_of : CalF P w K mg base ("is_paper_of", none) 5 ["bundle", "value"] (sp_is_paper_of K) := ok_is_paper_of T C_are_steps C_is_clause
    have C_contrary : CalF P w K mg base ("contrary", none) 1 ["one", "other"] (sp_contrary K) := ok_contrary T 
    have C_is_trivial : CalF P w K mg base ("is_trivial", none) 2 ["clause"] (sp_is_trivial K) := ok_is_trivial T C_contrary
    have C_met_by : CalF P w K mg base ("met_by", none) 2 ["one", "other"] (sp_met_by K) := ok_met_by T C_contrary
    have C_Traced_left_of : CalF P w K mg base ("Traced", some "left_of") 1 ["self", "clause", "sure"] (sp_Traced_left_of K) := ok_Traced_left_of T 
    have C_Traced_trace : CalF P w K mg base ("Traced", some "trace") 2 ["self", "given"] (sp_Traced_trace K) := ok_Traced_trace T C_Traced_left_of
    have C_chain_for : CalF P w K mg base ("chain_for", none) 3 ["units", "clause"] (sp_chain_for K) := ok_chain_for T C_met_by C_Traced_trace
    have C_Traced_put : CalF P w K mg base ("Traced", some "put") 1 ["self", "clause"] (sp_Traced_put K) := ok_Traced_put T 
    have C_Traced_init : CalF P w K mg base ("Traced", some "__init__") 2 ["self", "clauses"] (sp_Traced_init K) := ok_Traced_init T C_Traced_put
    have C_chained_of : CalF P w K mg base ("chained_of", none) 4 ["clauses", "paper"] (sp_chained_of K) := ok_chained_of T C_is_trivial C_chain_for C_Traced_put C_Traced_init
    have C_chained : CalF P w K mg base ("chained", none) 6 ["bundle", "paper"] (sp_chained K) := ok_chained T C_check_bundle C_is_paper_of C_chained_of
    have C_are_values_of : CalF P w K mg base ("are_values_of", none) 2 ["bundle", "value"] (sp_are_values_of K) := ok_are_values_of T C_is_integer
    have C_do_hold : CalF P w K mg base ("do_hold", none) 1 ["bundle", "values"] (sp_do_hold K) := ok_do_hold T 
    have C_is_solved : CalF P w K mg base ("is_solved", none) 6 ["bundle", "value"] (sp_is_solved K) := ok_is_solved T C_is_paper_of C_are_values_of C_do_hold
    have C_shows_solved : CalF P w K mg base ("shows_solved", none) 7 ["bundle", "value"] (sp_shows_solved K) := ok_shows_solved T C_check_bundle C_is_solved
    have C_law_with : CalF P w K mg base ("_law_with", none) 1 ["clauses", "literal"] (sp_law_with K) := ok_law_with T 
    have C_is_paper : CalF P w K mg base ("is_paper", none) 6 ["bundle", "value"] (sp_is_paper K) := ok_is_paper T C_check_bundle C_is_paper_of
    have C_got_by : CalF P w K mg base ("got_by", none) 3 ["clauses", "places"] (sp_got_by K) := ok_got_by T C_met_by
    have C_is_link : CalF P w K mg base ("is_link", none) 4 ["many", "known", "value"] (sp_is_link K) := ok_is_link T C_got_by C_is_clause C_is_between
    have C_is_chain_of : CalF P w K mg base ("is_chain_of", none) 5 ["bundle", "value"] (sp_is_chain_of K) := ok_is_chain_of T C_is_link
    have C_is_chain : CalF P w K mg base ("is_chain", none) 6 ["bundle", "value"] (sp_is_chain K) := ok_is_chain T C_check_bundle C_is_chain_of
    have C_law_is_paper_right : CalF P w K mg base ("_law_is_paper_right", none) 8 ["one", "other", "both", "number"] (sp_law_is_paper_right K) := ok_law_is_paper_right T C_solve_told C_chained C_shows_solved C_law_with C_is_paper C_is_chain
    have C_law_take : CalF P w K mg base ("_law_take", none) 1 ["pot", "upto"] (sp_law_take K) := ok_law_take T 
    have C_law_some : CalF P w K mg base ("_law_some", none) 2 ["pot", "some", "many"] (sp_law_some K) := ok_law_some T C_law_take
    have C_law_of : CalF P w K mg base ("_law_of", none) 2 ["pot", "some"] (sp_law_of K) := ok_law_of T C_law_take
    have C_law_clauses : CalF P w K mg base ("_law_clauses", none) 3 ["pot", "many", "most"] (sp_law_clauses K) := ok_law_clauses T C_law_take C_law_some C_law_of
    have C_head_of : CalF P w K mg base ("head_of", none) 1 ["heads", "number"] (sp_head_of K) := ok_head_of T 
    have C_groups_of : CalF P w K mg base ("groups_of", none) 2 ["clauses"] (sp_groups_of K) := ok_groups_of T C_head_of
    have C_can_hold : CalF P w K mg base ("can_hold", none) 6 ["many", "clauses"] (sp_can_hold K) := ok_can_hold T C_Search_solve C_Search_init
    have C_doubled : CalF P w K mg base ("doubled", none) 1 ["times", "most"] (sp_doubled K) := ok_doubled T 
    have C_first_open : CalF P w K mg base ("first_open", none) 1 ["search"] (sp_first_open K) := ok_first_open T 
    have C_turn : CalF P w K mg base ("turn", none) 3 ["search", "turned"] (sp_turn K) := ok_turn T C_Search_back_to C_Search_decide
    have C_count_by : CalF P w K mg base ("count_by", none) 6 ["many", "clauses", "most"] (sp_count_by K) := ok_count_by T C_first_open C_turn C_doubled C_Search_spread C_Search_decide C_Search_init
    have C_renamed_clauses : CalF P w K mg base ("renamed_clauses", none) 1 ["numbers", "clauses"] (sp_renamed_clauses K) := ok_renamed_clauses T 
    have C_count_whole : CalF P w K mg base ("count_whole", none) 7 ["many", "clauses", "most"] (sp_count_whole K) := ok_count_whole T C_groups_of C_can_hold C_doubled C_count_by C_renamed_clauses
    have C_count_values : CalF P w K mg base ("count_values", none) 8 ["bundle"] (sp_count_values K) := ok_count_values T C_check_bundle C_count_whole
    have C_solve_up : CalF P w K mg base ("solve_up", none) 6 ["many", "clauses"] (sp_solve_up K) := ok_solve_up T C_Search_solve C_Search_init
    have C_sure_of : CalF P w K mg base ("sure_of", none) 7 ["many", "clauses"] (sp_sure_of K) := ok_sure_of T C_solve C_solve_up C_can_hold C_Search_spread C_Search_init
    have C_sure_literals : CalF P w K mg base ("sure_literals", none) 8 ["bundle"] (sp_sure_literals K) := ok_sure_literals T C_check_bundle C_sure_of
    have C_is_given : CalF P w K mg base ("is_given", none) 3 ["bundle", "value"] (sp_is_given K) := ok_is_given T C_is_clause
    have C_units_told : CalF P w K mg base ("units_told", none) 5 ["bundle", "given"] (sp_units_told K) := ok_units_told T C_check_bundle C_is_given C_Units_run C_Units_init
    have C_law_rows : CalF P w K mg base ("_law_rows", none) 1 ["many"] (sp_law_rows K) := ok_law_rows T 
    have C_law_all_hold : CalF P w K mg base ("_law_all_hold", none) 1 ["clauses", "row"] (sp_law_all_hold K) := ok_law_all_hold T 
    have C_law_right : CalG P w K mg base ("_law_right", none) 9 ["pot"] (sp_law_right K) := ok_law_right T C_law_is_paper_right C_law_some C_law_take C_law_clauses C_law_with C_is_bundle C_count_values C_sure_literals C_units_told C_law_rows C_law_all_hold C_law_of
    exact ok_law T C_law_cells C_law_pot C_law_right
  exact main fd F
end Nt
open PySem PySem.W PySem.Calls PyProof.Rows
theorem PySem.Challenge.cw_nosuchthings_k03_whole_one_bundle_or_the_holds : PySem.Challenge.rw_nosuchthings_k03_whole_one_bundle_or_the.Holds := by
  w_on; o_law
  refine HandSHeadRun.head_any (r := OpenLaw.row PySem.Challenge.rw_nosuchthings_k03_whole_one_bundle_or_the) (q := view (OpenLaw.row PySem.Challenge.rw_nosuchthings_k03_whole_one_bundle_or_the).prog [72]) (H := Nt.hk) (ob := Nt.ob) (M := 12000) (loose := Nt.nms) (d := HandSHeadRun.topDef (OpenLaw.row PySem.Challenge.rw_nosuchthings_k03_whole_one_bundle_or_the).prog 72) (kwd := []) Nt.ob_eq
    (by kernel_rfl) (fun s => by kernel_rfl) Nt.run (by kernel_rfl) (by kernel_rfl) (by kernel_rfl) (by rfl) (by first | assumption | decide +kernel) (by decide +kernel) ⟨rfl, rfl, rfl, rfl, rfl, by decide +kernel⟩ ?hw ?hc
  case hw => w_witness2
  case hc =>
    refine Nt.walkG (l := PySem.Challenge.rw_nosuchthings_k03_whole_one_bundle_or_the) (n := 63) (k := 10) (x := "script") rfl (by decide) (by kernel_rfl) ⟨rfl, by decide, by decide⟩ ?F
    intro w mg fa h Y G hmg0
    obtain ⟨K, KX, c⟩ := Y
    have hmg : mg ("law" : PySem.Str) = some (.ref fa) := by
      have e : (HandSHeadRun.topDef (OpenLaw.row PySem.Challenge.rw_nosuchthings_k03_whole_one_bundle_or_the).prog 72).name = ("law" : PySem.Str) := by kernel_rfl
      rw [← e]
      exact hmg0
    obtain ⟨fd, hb, hF⟩ := Nt.facts (P := (PySem.Challenge.rw_nosuchthings_k03_whole_one_bundle_or_the).prog) (w := w) KX G hmg c
    exact ⟨K, fd, Nt.sp_law K, KX, hb, fun H a ns hl _ hS => ⟨a, ns, rfl, hS, hl, fun _ => rfl⟩, hF⟩
