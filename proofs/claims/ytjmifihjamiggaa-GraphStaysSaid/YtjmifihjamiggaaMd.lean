/- Part 4 of the proof: it joins the texts InS, Sp0, DelS, Sp1, Sp2, Sp3, Sp4, Sp5, Sp6, Sp7, WrS, InP, DelP, WrP, CloS, CloP, BsP, Sp8, Sp9, Sp10, Sp11, Sp12, Sp13, Sp14, Sp15, Sp16, Sp17, Sp18, Sp20, Sp21, Sp22, Sy, CloN, CloE. -/
import Derived.Test.YtjmifihjamiggaaMc
import Derived.Shelf.Spec.SlicesInsert
import Derived.Attr
import Derived.Sort.Walk0
import Derived.Deep.Slices
import Derived.KernelRfl
import Derived.ProofKit
section PInS
/- Contracts, library: slices.Insert of one element, at [string]. -/
set_option linter.unusedVariables false
set_option linter.unusedSimpArgs false
set_option maxHeartbeats 4000000
set_option maxRecDepth 100000
namespace Go.Ab
open Go.Proofs Go.RowKit Go.Lib

theorem walkA_string (base : Option Addr) (n cap : Nat) (u : Value) (vc : Nat) (va : Option Addr) (hu : u = .slice va 1 vc) (hn : n ≤ cap) (h63 : n + 1 ≤ 9223372036854775807) (w w' : World) (v' : Value) (hr : (Builtin.append_ #[39, 39] 39 #[.slice base n cap, u]).run Try.prog w = .ok v' w') :
    Calls Try.prog 136 #[.slice base n cap, .int .i64 n, u] w fun e w1 => e = .returned v' ∧ w1 = w' := by
  subst hu
  go_enter Try.func136, Try.ntmps136
  go_wp2_with (at_builtin; refine Lib.wpList_append_run _ rfl _ _ _ _ rfl _ _ rfl rfl _ _ hr ?_)
  all_goals (go_ret; exact ⟨rfl, rfl⟩)

theorem walkC_string (b n cap i vb vo vc : Nat) (hi : i < n) (hroom : n + 1 ≤ cap) (h63 : n + 1 ≤ 9223372036854775807) (w W1 W2 : World) (r1 r2 : Value)
    (hov : ∀ lb cb o, (callFunc 170 #[.slice (some ⟨vb, vo, none⟩) 1 vc, .slice (some ⟨b, o, none⟩) lb cb]).run Try.prog w = .ok (.value (.bool false)) w)
    (h1 : ∀ ty dc sc, (Builtin.copy_ #[39, 39] ty #[.slice (some ⟨b, (i + 1) * 1, none⟩) (n - i) dc, .slice (some ⟨b, i * 1, none⟩) (n + 1 - i) sc]).run Try.prog w.drew = .ok r1 W1)
    (h2 : ∀ ty dc vc, (Builtin.copy_ #[39, 39] ty #[.slice (some ⟨b, i * 1, none⟩) (n + 1 - i) dc, .slice (some ⟨vb, vo, none⟩) 1 vc]).run Try.prog W1 = .ok r2 W2) :
    Calls Try.prog 136 #[.slice (some ⟨b, 0, none⟩) n cap, .int .i64 i, .slice (some ⟨vb, vo, none⟩) 1 vc] w fun e w1 => e = .returned (.slice (some ⟨b, 0, none⟩) (n + 1) cap) ∧ w1 = W2 := by
  have mixed := mixed
  try simp only [Nat.mul_one] at h1 h2
  have hz2 : ¬ ((i : Int) = (n : Int)) := by omega
  have hw1 : IntKind.i64.wrap ((i : Int) + 1) = (i : Int) + 1 := by rw [IntKind.wrap_i64]; omega
  have hw2 : IntKind.i64.wrap ((n : Int) + 1) = (n : Int) + 1 := by rw [IntKind.wrap_i64]; omega
  have hb1 : (0 : Int) ≤ (i : Int) + 1 := by omega
  have hin : i ≤ n := by omega
  have htn : ((i : Int) + 1).toNat = i + 1 := by omega
  have htn2 : ((n : Int) + 1).toNat = n + 1 := by omega
  have hb2 : ¬ (cap = i + 1) := by omega
  have hb3 : (i : Int) ≤ (n : Int) + 1 := by omega
  have hb4 : ¬ (cap = i) := by omega
  have hb5 : ¬ ((cap : Int) < (n : Int) + 1) := by omega
  have hb6 : (i : Int) + 1 ≤ (n : Int) + 1 := by omega
  go_enter Try.func136, Try.ntmps136
  go_wp2_with (simp only [hov])
  go_region_law_o (refine step_copy_runI rfl _ _ 39 39 rfl _ _ (by simp [Act.eval, Act.put]) (by simp [Act.eval, Act.put]) (h1 _ _ _) ?_)
  go_wp2_with (at_builtin; refine wpList_copy_runI _ rfl _ _ 39 39 rfl _ _ rfl rfl (h2 _ _ _) ?_)
  go_ret
  exact ⟨rfl, rfl⟩
theorem walkB_string (b n cap i vb vo vc N G : Nat) (hi : i < n) (hcn : n ≤ cap) (hroom : cap < n + 1) (hG : n + 1 ≤ G) (h63 : n + 1 ≤ 9223372036854775807) (w W1 W2 W3 : World) (r2 r3 : Value)
    (ha : ∀ kq ty, (Builtin.append_ #[39, 3] ty #[.slice (some ⟨b, 0, none⟩) i cap, .int kq ((n + 1 - i : Nat) : Int)]).run Try.prog w = .ok (.slice (some ⟨N, 0, none⟩) (n + 1) G) W1)
    (h1 : ∀ ty dc vc, (Builtin.copy_ #[39, 39] ty #[.slice (some ⟨N, i * 1, none⟩) (n + 1 - i) dc, .slice (some ⟨vb, vo, none⟩) 1 vc]).run Try.prog W1 = .ok r2 W2)
    (h2 : ∀ ty dc sc, (Builtin.copy_ #[39, 39] ty #[.slice (some ⟨N, (i + 1) * 1, none⟩) (n - i) dc, .slice (some ⟨b, i * 1, none⟩) (n - i) sc]).run Try.prog W2.drew = .ok r3 W3) :
    Calls Try.prog 136 #[.slice (some ⟨b, 0, none⟩) n cap, .int .i64 i, .slice (some ⟨vb, vo, none⟩) 1 vc] w fun e w1 => e = .returned (.slice (some ⟨N, 0, none⟩) (n + 1) G) ∧ w1 = W3 := by
  have mixed := mixed
  try simp only [Nat.mul_one] at h1 h2
  have hkk : (n : Int) + 1 - (i : Int) = ((n + 1 - i : Nat) : Int) := by omega
  have ha' : ∀ ty, (Builtin.append_ #[39, 3] ty #[.slice (some ⟨b, 0, none⟩) i cap, .int .i64 ((n : Int) + 1 - (i : Int))]).run Try.prog w = .ok (.slice (some ⟨N, 0, none⟩) (n + 1) G) W1 := fun ty => by rw [hkk]; exact ha _ _
  have hz2 : ¬ ((i : Int) = (n : Int)) := by omega
  have hw1 : IntKind.i64.wrap ((i : Int) + 1) = (i : Int) + 1 := by rw [IntKind.wrap_i64]; omega
  have hw2 : IntKind.i64.wrap ((n : Int) + 1) = (n : Int) + 1 := by rw [IntKind.wrap_i64]; omega
  have hw3 : IntKind.i64.wrap ((n : Int) + 1 - (i : Int)) = (n : Int) + 1 - (i : Int) := by rw [IntKind.wrap_i64]; omega
  have hb1 : (0 : Int) ≤ (i : Int) + 1 := by omega
  have hin : i ≤ n := by omega
  have htn : ((i : Int) + 1).toNat = i + 1 := by omega
  have hb2 : ¬ (G = i + 1) := by omega
  have hb3 : (i : Int) ≤ (n : Int) + 1 := by omega
  have hb4 : ¬ (cap = i) := by omega
  have hb5 : (cap : Int) < (n : Int) + 1 := by omega
  have hb6 : (i : Int) + 1 ≤ (n : Int) + 1 := by omega
  have hb7 : ¬ (G = i) := by omega
  have hb8 : (i : Int) ≤ (n : Int) := by omega
  have hi1 : i ≤ n + 1 := by omega
  have hic : i ≤ cap := by omega
  have hng : n + 1 ≤ G := hG
  clear hkk ha
  go_enter Try.func136, Try.ntmps136
  go_wp2_with (first
    | (at_builtin; refine Lib.wpList_append_run _ rfl _ _ _ _ rfl _ _ rfl rfl _ _ (ha' _) ?_)
    | (at_builtin; refine wpList_copy_runI _ rfl _ _ 39 39 rfl _ _ rfl rfl (h1 _ _ _) ?_))
  go_region_law_o (refine step_copy_runI rfl _ _ 39 39 rfl _ _ (by simp [Act.eval, Act.put]) (by simp [Act.eval, Act.put]) (h2 _ _ _) ?_)
  go_wp2
  go_ret
  exact ⟨rfl, rfl⟩
theorem insert_string_ok {l lv ver verv i : Nat} {st : Own} {elems : List (List CV)} {x : List CV} {H : List (Nat × Blk)} {nx : Nat} {K : AV → List (Nat × Blk) → Nat → Prop} (hl : hget H l = some (.row ver 1 st elems)) (hlv : hget H lv = some (.row verv 1 .own [x])) (hne : lv ≠ l) (hi : i ≤ elems.length)
    (hby : (elems.length + 1) * 16 ≤ 140737488355328) (hk : K (.c (.ref l (ver + 1) 0 (elems.length + 1))) (hset H l (.row (ver + 1) 1 .own (elems.take i ++ x :: elems.drop i))) nx) :
    ACalls Try.prog 136 [.c (.ref l ver 0 elems.length), vI .i64 i, .c (.ref lv verv 0 1)] H nx K := by
  refine ⟨⟨Try.f136, Try.func136, by kernel_rfl, of_decide_eq_true (by kernel_rfl)⟩, fun w β F vals hs hsz hv => ?_⟩
  obtain ⟨vals⟩ := vals
  match vals, hsz with
  | [v0, v1, v2], _ =>
  have hv0 := hv 0 _ v0 rfl rfl
  obtain rfl := int_inv (hv 1 _ v1 rfl rfl)
  have hv2 := hv 2 _ v2 rfl rfl
  clear hv
  obtain ⟨hlt, _, ro2, ro3, ro4⟩ := ref_inv hv0 hl
  obtain ⟨hltv, _, _, _, rv4⟩ := ref_inv hv2 hlv
  obtain ⟨av, cv, rfl, hcv, hav, arrv, tyv, harrv, hszv⟩ := rv4 rfl
  have hav := hav (by omega)
  simp only [Nat.zero_mul, Nat.zero_add] at hav hszv
  subst hav
  have hup : hget (hset H l (.row (ver + 1) 1 .own (elems.take i ++ x :: elems.drop i))) = upd (hget H) l (.row (ver + 1) 1 .own (elems.take i ++ x :: elems.drop i)) := hget_hset _ _ _
  have hie : (Try.prog.info? 9).map (fun i => (i.size, i.bytes, i.zero.map fun z => z.cells.size)) = some (1, 16, some 1) := by kernel_rfl
  obtain ⟨ti, hti, hie⟩ := Option.map_eq_some_iff.1 hie
  simp only [Prod.mk.injEq] at hie
  obtain ⟨hts, htb, hie⟩ := hie
  obtain ⟨z, hz, hzs⟩ := Option.map_eq_some_iff.1 hie
  have hposl := (hs.pos _ _ _ _ _ hl)
  by_cases hin : i = elems.length
  · -- at the end
    subst hin
    have hap : appendA 1 ti.bytes (.c (.ref l ver 0 elems.length)) (.c (.ref lv verv 0 1)) nx (hget H) = some (.set (.c (.ref l (ver + 1) 0 (elems.length + 1))) l (.row (ver + 1) 1 .own (elems ++ [x]))) := by
      rw [htb]
      simp [appendA, content, hl, hlv, grown, hby]
    have hfree : Al (hget H) nx nx := .inl ⟨by
      cases hq : hget H nx with
      | none => rfl
      | some b => have := hs.dom _ _ hq; omega, Nat.le_refl _⟩
    obtain ⟨nv, v, w', β', F', hrun, hnv, hall⟩ := append_ok (ty := 39) (zc := []) hs Try.underlying39 hti hz (by rw [hts]; exact hzs) hts (by decide) Try.underlying39 rfl (by rw [htb]; decide) hv0 hv2 hfree hap
    obtain ⟨s1, s2, s3⟩ := hall nx (Nat.le_refl _) (fun q => by cases q)
    have hrun' : (Builtin.append_ #[39, 39] 39 #[v0, .slice (some ⟨β lv, 0, none⟩) 1 cv]).run Try.prog w = .ok v w' := by
      simp only [Sem.run_bind] at hrun
      generalize (Builtin.append_ #[39, 39] 39 #[v0, .slice (some ⟨β lv, 0, none⟩) 1 cv]).run Try.prog w = q at hrun ⊢
      cases q with
      | ok v' w1 =>
        simp only [Result.andThen_ok, Sem.run_pure, Result.ok.injEq] at hrun
        obtain ⟨rfl, rfl⟩ := hrun
        rcases hnv with q | ⟨q, _⟩
        · injection q with q; rw [q]
        · cases q
      | _ => cases hrun
    have hv0' : ∃ base cap, v0 = .slice base elems.length cap ∧ elems.length ≤ cap := by
      cases st with
      | nil => exact ⟨none, 0, by rw [ro2 rfl, hposl.2.2 (by decide)]; rfl, by rw [hposl.2.2 (by decide)]; exact Nat.le_refl _⟩
      | emp => obtain ⟨a, ha⟩ := ro3 rfl; exact ⟨some a, 0, by rw [ha, hposl.2.2 (by decide)]; rfl, by rw [hposl.2.2 (by decide)]; exact Nat.le_refl _⟩
      | own => obtain ⟨a, cap, rfl, hcap, _⟩ := ro4 rfl; exact ⟨some a, cap, rfl, hcap⟩
    obtain ⟨base, cap, rfl, hcap⟩ := hv0'
    refine (walkA_string base elems.length cap _ cv _ rfl hcap (by omega) w w' v hrun').mono ?_
    rintro e w1 ⟨rfl, rfl⟩
    have he : elems.take elems.length ++ x :: elems.drop elems.length = elems ++ [x] := by simp
    rw [he] at hk hup
    refine ⟨_, _, _, v, β', F', rfl, hk, ?_, ?_, ?_⟩
    · rw [hup]; exact s1
    · rw [hup]; exact s3
    · rw [hup]; exact s2
  · have hlt' : i < elems.length := by omega
    have hst : st = .own := by
      cases st with
      | own => rfl
      | _ => rw [hposl.2.2 (by decide)] at hlt'; simp at hlt'
    subst hst
    obtain ⟨a, cap, rfl, hcap, ha, arr, ty, harr, hszl⟩ := ro4 rfl
    have ha := ha (by omega)
    simp only [Nat.zero_mul, Nat.zero_add] at ha hszl
    subst ha
    have hbne : β lv ≠ β l := fun q => hne (hs.inj _ _ ⟨_, _, _, hlv⟩ ⟨_, _, _, hl⟩ q)
    have hV : RepE w F β (hget H) nx 1 [x] (seg arrv 0 1).toArray := by
      obtain ⟨arr', ty', harr', hle', hr'⟩ := hs.row _ _ _ _ hlv
      rw [harrv] at harr'
      injection harr' with harr'
      injection harr' with q1 q2
      subst q1
      simp only [List.length_cons, List.length_nil] at hle'
      refine ⟨by simp [seg_length], fun k e he => ?_, fun k j e c he hc => ?_⟩
      · exact (hs.pos _ _ _ _ _ hlv).2.1 k e he
      · have hk : k = 0 := by have := (List.getElem?_eq_some_iff.1 he).1; simp at this; omega
        subst hk
        have hj : j < 1 := by rw [← (hs.pos _ _ _ _ _ hlv).2.1 0 e he]; exact (List.getElem?_eq_some_iff.1 hc).1
        obtain ⟨v, hv, hr⟩ := hr' 0 j e c he hc
        refine ⟨v, ?_, hr⟩
        rw [List.getElem?_toArray, Nat.zero_mul, Nat.zero_add, seg_get _ _ _ _ hj (by omega)]
        simpa using hv
    have hV1 := seg_one hs hlv harrv 0 1 (by simp)
    have hld : ∀ w' : World, w'.heap[β lv]? = w.heap[β lv]? → (loadCells ⟨β lv, 0, none⟩ 1).run Try.prog w' = .ok (seg arrv 0 1).toArray w' := fun w' hw => load_seg Try.prog (hw.trans harrv) 0 1 (by rw [← hszv]; have := Nat.mul_le_mul_right 1 hcv; omega)
    by_cases hroom : elems.length + 1 ≤ cap
    · obtain ⟨r1, W1, r2, W2, c1, c2, ⟨arr', ha1, ha2⟩, hall⟩ := ins_in (P := Try.prog) (t := 39) (e := 9) hs Try.underlying39 (by simp [tSize, hti, hts]) hl hlt' harr (by rw [← hszl]; exact Nat.mul_le_mul_right _ hroom) hV hV1 hbne hld
      obtain ⟨s1, s2⟩ := hall nx (Nat.le_refl _)
      have hov : ∀ lb cb o, (callFunc 170 #[.slice (some ⟨β lv, 0, none⟩) 1 cv, .slice (some ⟨β l, o, none⟩) lb cb]).run Try.prog w = .ok (.value (.bool false)) w := fun lb cb o => by
        rw [run_callFunc_extern Try.func170 (by kernel_rfl) (by kernel_rfl) (by kernel_rfl) (e := Extern.SlicesOverlaps.overlaps #[39, 39] #[4]) (by kernel_rfl),
          Lib.run_overlaps_apart w 39 4 9 Try.underlying39 1 Try.sizeOf9 ⟨β lv, 0, none⟩ ⟨β l, o, none⟩ 1 cv lb cb hbne tyv ty arrv.size arr.size (by simp [World.shape?, harrv]) (by simp [World.shape?, harr]) (by rw [← hszl]; have := Nat.mul_le_mul_right 1 hroom; omega) (by simp [World.frozen?, harrv]) (by simp [World.frozen?, harrv])]
        rfl
      refine (walkC_string (β l) elems.length cap i (β lv) 0 cv hlt' hroom (by omega) w W1 W2 r1 r2 hov c1 c2).mono ?_
      rintro e w1 ⟨rfl, rfl⟩
      refine ⟨_, _, _, _, updN β l (β l), F, rfl, hk, ?_, ?_, ?_⟩
      · rw [hup]; exact s1
      · rw [hup]
        exact refVal hlt ⟨by simp; omega, (by intro q; cases q), (by intro q; cases q), fun _ => ⟨_, cap, rfl, hroom, fun _ => by simp [updN], arr', ty, by simpa [updN] using ha1, by rw [ha2, Nat.zero_add]; exact hszl⟩⟩
      · rw [hup]; exact s2
    · obtain ⟨G, W1, r2, W2, r3, W3, hG, hGm, c1, c2, c3, ⟨arr', ha1, ha2⟩, hall⟩ := ins_out (P := Try.prog) (cap := cap) (t := 39) (tn := 3) (e := 9) (kn := .i64) hs Try.underlying39 Try.underlying3 hti hts hz hzs hl hlt' harr (by omega) (by rw [htb]; exact hby) (by omega) hV hV1 (hs.block_lt ⟨_, _, _, hlv⟩) hld
      obtain ⟨s1, s2⟩ := hall nx (Nat.le_refl _)
      refine (walkB_string (β l) elems.length cap i (β lv) 0 cv w.heap.size G hlt' hcap (by omega) hG (by omega) w W1 W2 W3 r2 r3 c1 c2 c3).mono ?_
      rintro e w1 ⟨rfl, rfl⟩
      refine ⟨_, _, _, _, updN β l w.heap.size, F, rfl, hk, ?_, ?_, ?_⟩
      · rw [hup]; exact s1
      · rw [hup]
        exact refVal hlt ⟨by simp; omega, (by intro q; cases q), (by intro q; cases q), fun _ => ⟨_, G, rfl, hG, fun _ => by simp [updN], arr', 9, by simpa [updN] using ha1, by rw [ha2, Nat.zero_add]⟩⟩
      · rw [hup]; exact s2
end Go.Ab
end PInS

section PSp0
/- Contracts, part 0: the evaluation of W by 'simp'. -/
set_option linter.unusedVariables false
set_option linter.unusedSimpArgs false
namespace Go.Ab
open Go.Proofs

attribute [go_sem] W_skip W_ops W_draw W_seq W_cond W_block W_exit W_ret EV_nil EV_op EV_g GRD_y GRD_y' GRD_n GRD_n' GRD_u DO_v DO_set DO_new pure0_some putD ghK_nil seqK_n seqK_e seqK_r blkK_n blkK_e blkK_r loopK_n loopK_e loopK_r condW_t condW_f
  Nat.reduceAdd Nat.zero_add List.length_cons List.length_nil Nat.le_refl Bool.false_eq_true Bool.not_true Bool.not_false List.map_cons List.map_nil if_true if_false Option.map_some Option.map_none

section
variable (P : Program) (dst : Option Nat) (s : St) (K : St → Prop)
theorem lkp_hit (k : Nat) (v : AV) (r : List (Nat × AV)) : lkp ((k, v) :: r) k = v := by simp [lkp]
theorem lkp_miss (k t : Nat) (v : AV) (r : List (Nat × AV)) (h : ¬ k = t) : lkp ((k, v) :: r) t = lkp r t := by simp [lkp, h]
theorem lkp_nil (t : Nat) : lkp [] t = .u := rfl
end
attribute [go_sem] STEP evalA Arg.val lkp argE

theorem GRD_true {P : Program} {b want : Bool} {dst : Option Nat} {o : AO} {s : St} {K : St → Prop} (h1 : b = true → GRD P (.c (.p (.bool true))) want dst o s K) (h2 : b = false → GRD P (.c (.p (.bool false))) want dst o s K) : GRD P (.c (.p (.bool b))) want dst o s K := by
  cases b
  · exact h2 rfl
  · exact h1 rfl
theorem GRD_split {P : Program} {b want : Bool} {dst : Option Nat} {o : AO} {s : St} {K : St → Prop} (h1 : b = want → STEP P dst o s K) (h2 : b = !want → K ⟨putD s.env dst (.tup []), s.H, s.nx⟩) : GRD P (.c (.p (.bool b))) want dst o s K := by
  unfold GRD
  by_cases h : b = want
  · simp only [h, if_true]; exact h1 h
  · simp only [h, if_false]; exact h2 (by cases b <;> cases want <;> simp_all)

theorem FRZ_p (r : AV) (p : PV) (H : List (Nat × Blk)) : FRZ r (.c (.p p)) H = (.c (.p p) = r) := rfl
attribute [go_sem] binA intOp pickA unA lenSA strOp RETK rvals RV.val retA FRZ_p

theorem KEEP0 (ts : List Nat) (e : List (Nat × AV)) (nx : Nat) (J : St → Prop) : KEEP ts 0 ⟨e, [], nx⟩ J = ((keepE ts e).all (fun x => idsA 0 x.2) = true ∧ J ⟨keepE ts e, [], 0⟩) := by
  unfold KEEP keepH; simp
theorem idsA_c (nx : Nat) (c : CV) : idsA nx (.c c) = idsC nx c := rfl
theorem idsA_agg (nx : Nat) (l : List CV) : idsA nx (.agg l) = l.all (idsC nx) := rfl
theorem idsA_t (nx : Nat) : idsA nx (.tup []) = true := rfl
theorem idsA_u (nx : Nat) : idsA nx .u = true := rfl
theorem idsC_p (nx : Nat) (p : PV) : idsC nx (.p p) = true := rfl
theorem idsC_ptr (nx l ver i o : Nat) : idsC nx (.ptr l ver i o) = decide (l < nx) := rfl
theorem idsC_ref (nx l ver i o : Nat) : idsC nx (.ref l ver i o) = decide (l < nx) := rfl
attribute [go_sem] KEEP0 keepE List.all_cons List.all_nil Bool.and_true idsA_c idsA_agg idsA_t idsA_u idsC_p idsC_ptr idsC_ref

section
variable (P : Program) (bef : List Nat) (n0 i : Nat) (seen : Seen) (s : St) (K : St → Prop) (J : Seen → St → Prop) (dst : Option Nat) (o : AO) (r : List AOp)
theorem EVD_nil : EVD P bef n0 [] i K seen s = K s := rfl
theorem EVD_op : EVD P bef n0 (⟨none, dst, o⟩ :: r) i K seen s = STEPD P bef n0 i seen dst o s (EVD P bef n0 r (i + 1) K) := rfl
theorem EVD_g (d : Nat) (want : Bool) : EVD P bef n0 (⟨some (d, want), dst, o⟩ :: r) i K seen s = GRDD P bef n0 i seen (lkp s.env d) want dst o s (EVD P bef n0 r (i + 1) K) := rfl
theorem GRDD_y : GRDD P bef n0 i seen (.c (.p (.bool true))) true dst o s J = STEPD P bef n0 i seen dst o s J := rfl
theorem GRDD_y' : GRDD P bef n0 i seen (.c (.p (.bool false))) false dst o s J = STEPD P bef n0 i seen dst o s J := rfl
theorem GRDD_n : GRDD P bef n0 i seen (.c (.p (.bool true))) false dst o s J = J seen ⟨putD s.env dst (.tup []), s.H, s.nx⟩ := rfl
theorem GRDD_n' : GRDD P bef n0 i seen (.c (.p (.bool false))) true dst o s J = J seen ⟨putD s.env dst (.tup []), s.H, s.nx⟩ := rfl
theorem GRDD_u (want : Bool) : GRDD P bef n0 i seen (.tup []) want dst o s J = J seen ⟨putD s.env dst (.tup []), s.H, s.nx⟩ := rfl
theorem DOD_v (x : AV) (al : Nat) (R W : List Nat) : DOD (some (.v x)) al (R, W) bef i seen dst s J = (clear (bef.getD i 0) R W seen = true ∧ J (addS i R W seen) ⟨putD s.env dst x, s.H, s.nx⟩) := rfl
theorem DOD_set (x : AV) (l : Nat) (b : Blk) (al : Nat) (R W : List Nat) : DOD (some (.set x l b)) al (R, W) bef i seen dst s J = (clear (bef.getD i 0) R W seen = true ∧ J (addS i R W seen) ⟨putD s.env dst x, hset s.H l b, s.nx⟩) := rfl
theorem DOD_new (x : AV) (b : Blk) (al : Nat) (R W : List Nat) : DOD (some (.new x b)) al (R, W) bef i seen dst s J = (clear (bef.getD i 0) R W seen = true ∧ J (addS i R W seen) ⟨putD s.env dst x, (al, b) :: s.H, s.nx⟩) := rfl
theorem addS_nil : addS i [] [] seen = seen := rfl
theorem clear_nil' (b : Nat) : (clear b [] [] seen = true) = True := by simp [clear_nil]
end
attribute [go_sem] EVD_nil EVD_op EVD_g GRDD_y GRDD_y' GRDD_n GRDD_n' GRDD_u STEPD DOD_v DOD_set DOD_new addS_nil clear_nil' fpA locsA true_and and_true
theorem GRDD_true {P : Program} {bef : List Nat} {n0 i : Nat} {seen : Seen} {b want : Bool} {dst : Option Nat} {o : AO} {s : St} {J : Seen → St → Prop} (h1 : b = true → GRDD P bef n0 i seen (.c (.p (.bool true))) want dst o s J) (h2 : b = false → GRDD P bef n0 i seen (.c (.p (.bool false))) want dst o s J) : GRDD P bef n0 i seen (.c (.p (.bool b))) want dst o s J := by
  cases b
  · exact h2 rfl
  · exact h1 rfl

/-- A loop that counts up, of a function of values. -/
theorem loop_up {P : Program} {ts : List Nat} {b : S} {Q : Ex → St → Prop} {e : List (Nat × AV)} (N i0 : Nat) (env : Nat → List (Nat × AV)) (Inv : Nat → Prop) (hi : i0 ≤ N) (h0 : keepE ts e = env i0) (hp : (env i0).all (fun x => idsA 0 x.2) = true) (hI : Inv i0)
    (hb : ∀ i, i ≤ N → Inv i → W P b (loopK ts 0 (fun s3 => i < N ∧ Inv (i + 1) ∧ s3 = ⟨env (i + 1), [], 0⟩) Q) ⟨env i, [], 0⟩) : W P (.loop ts b) Q ⟨e, [], 0⟩ := by
  rw [W_loop]
  refine ⟨fun n s' => ∃ i, i ≤ N ∧ n = N - i ∧ Inv i ∧ s' = ⟨env i, [], 0⟩, ⟨N - i0, ?_⟩, ?_⟩
  · show KEEP ts 0 ⟨e, [], 0⟩ _
    rw [KEEP0, h0]
    exact ⟨hp, i0, hi, rfl, hI, rfl⟩
  · rintro n s' - ⟨i, h1, rfl, h2, rfl⟩
    refine W_mono ?_ (hb i h1 h2)
    intro x s3 h
    cases x with
    | normal =>
      obtain ⟨k1, k2, k3, k4, k5, k6⟩ := h
      exact ⟨k1, k2, k3, N - (i + 1), by omega, i + 1, k4, rfl, k5, k6⟩
    | _ => exact h

/-- A slice of values: nil, or (k = some full) one with room behind it or none. -/
structure Sl (α : Type) where
  k : Option Bool
  l : List α
  ok : k = none → l = []
def slP (es : Nat) (k : Option Bool) (elems : List (List PV)) : PV :=
  match k with
  | none => .nil
  | some f => .sl es f elems
abbrev Sl.av {α : Type} (x : Sl α) (es : Nat) (enc : α → List PV) : AV := .c (.p (slP es x.k (x.l.map enc)))

section
variable {α : Type} (x : Sl α) (es : Nat) (enc : α → List PV) (H : Heap)
theorem lenA_sl : lenA (.c (.p (slP es x.k (x.l.map enc)))) H = some (vI .i64 x.l.length) := by
  obtain ⟨k, l, ok⟩ := x
  cases k with
  | none => have := ok rfl; subst this; rfl
  | some f => simp [slP, lenA]
theorem idxAA_sl (k : IntKind) (i : Nat) : idxAA es (.c (.p (slP es x.k (x.l.map enc)))) (vI k i) H = (x.l[i]?).map fun y => .c (.p (.ptr (enc y))) := by
  obtain ⟨k, l, ok⟩ := x
  cases k with
  | none => have := ok rfl; subst this; rfl
  | some f => simp [slP, idxAA, List.getElem?_map, Function.comp_def]
end
theorem loadA_p (agg : Bool) (n : Nat) (cells : List PV) (H : Heap) : loadA agg n (.c (.p (.ptr cells))) H = segA agg n (cells.map .p) := rfl
theorem loadA_r (agg : Bool) (n l ver i o : Nat) (H : Heap) : loadA agg n (.c (.ptr l ver i o)) H = match cellA H l ver i with
    | some (_, e) => segA agg n (e.drop o)
    | none => none := rfl
attribute [go_sem] lenA_sl idxAA_sl loadA_p loadA_r segA

theorem wrap_i64 {n : Int} (h0 : -9223372036854775808 ≤ n) (h1 : n ≤ 9223372036854775807) : IntKind.i64.wrap n = n := by
  simp only [IntKind.wrap, IntKind.bits, IntKind.signed]; simp; split <;> omega

theorem hget_same (H : List (Nat × Blk)) (l : Nat) (b : Blk) : hget (hset H l b) l = some b := by rw [hget_hset]; simp [upd]
theorem hget_other (H : List (Nat × Blk)) (l k : Nat) (b : Blk) (h : ¬ k = l) : hget (hset H l b) k = hget H k := by rw [hget_hset]; simp [upd, h]
theorem hset_hset : ∀ (H : List (Nat × Blk)) (l : Nat) (b c : Blk), hset (hset H l b) l c = hset H l c
  | [], l, b, c => by simp [hset]
  | (k, v) :: r, l, b, c => by
    simp only [hset]
    by_cases h : k = l
    · simp [h, hset]
    · simp [h, hset, hset_hset r l b c]
attribute [go_sem] hget_same hset_hset

theorem FRZ_tup (r : AV) (l : List AV) (H : List (Nat × Blk)) : FRZ r (.tup l) H = match frzT l H with
    | some (l', _) => AV.tup l' = r
    | none => False := by
  show (match (frzT l H).map fun (l, H) => (AV.tup l, H) with | some (r', _) => r' = r | none => False) = _
  cases frzT l H <;> rfl
theorem FRZ_c (r : AV) (c : CV) (H : List (Nat × Blk)) : FRZ r (.c c) H = match frzC c H with
    | some (p, _) => AV.c (.p p) = r
    | none => False := by
  show (match (frzC c H).map fun (p, H) => (AV.c (.p p), H) with | some (r', _) => r' = r | none => False) = _
  cases frzC c H <;> rfl
theorem FRZ_agg (r : AV) (cs : List CV) (H : List (Nat × Blk)) : FRZ r (.agg cs) H = match frzL cs H with
    | some (ps, _) => AV.agg (ps.map .p) = r
    | none => False := by
  show (match (frzL cs H).map fun (ps, H) => (AV.agg (ps.map .p), H) with | some (r', _) => r' = r | none => False) = _
  cases frzL cs H <;> rfl
theorem toPss_map {α : Type} (enc : α → List PV) : ∀ l : List α, toPss (l.map fun y => (enc y).map .p) = some (l.map enc)
  | [] => rfl
  | y :: l => by
    have h : ∀ p : List PV, toPs (p.map .p) = some p := by
      intro p
      induction p with
      | nil => rfl
      | cons a p ih => simp [toPs, ih]
    simp [toPss, h, toPss_map enc l]
theorem take_map_len {α β : Type} (f : α → β) (l : List α) : (l.map f).take l.length = l.map f := List.take_of_length_le (by simp)
theorem frzPV_own (es : Nat) (l : List (List PV)) : frzPV .own es l = .sl es false l := rfl
theorem frzPV_nil (es : Nat) (l : List (List PV)) : frzPV .nil es l = .nil := rfl
attribute [go_sem] hget toPss_map take_map_len frzPV_own frzPV_nil List.length_map
attribute [go_sem] FRZ_tup FRZ_agg FRZ_c frzT frz1 frzC frzL
attribute [go_sem] clear addS disj List.all_nil List.isEmpty_nil List.isEmpty_cons Bool.false_and List.getD_cons_succ List.getD_cons_zero List.nil_append List.append_nil Bool.true_or Bool.or_true Bool.true_and Nat.testBit Nat.reduceShiftRight Nat.reduceAnd Nat.reduceBNe

/-- A loop of a function of values. -/
theorem loop_gen {P : Program} {ts : List Nat} {b : S} {Q : Ex → St → Prop} {e : List (Nat × AV)} {σ : Type} (env : σ → List (Nat × AV)) (m : σ → Nat) (Inv : σ → Prop) (a : σ) (h0 : keepE ts e = env a) (hp : ∀ a, (env a).all (fun x => idsA 0 x.2) = true) (hI : Inv a)
    (hb : ∀ a, Inv a → W P b (loopK ts 0 (fun s3 => ∃ a', Inv a' ∧ m a' < m a ∧ s3 = ⟨env a', [], 0⟩) Q) ⟨env a, [], 0⟩) : W P (.loop ts b) Q ⟨e, [], 0⟩ := by
  rw [W_loop]
  refine ⟨fun n s' => ∃ a, n = m a ∧ Inv a ∧ s' = ⟨env a, [], 0⟩, ⟨m a, ?_⟩, ?_⟩
  · show KEEP ts 0 ⟨e, [], 0⟩ _
    rw [KEEP0, h0]
    exact ⟨hp a, a, rfl, hI, rfl⟩
  · rintro n s' - ⟨a, rfl, h2, rfl⟩
    refine W_mono ?_ (hb a h2)
    intro x s3 h
    cases x with
    | normal =>
      obtain ⟨k1, k2, k3, a', k4, k5, k6⟩ := h
      exact ⟨k1, k2, k3, m a', k5, a', rfl, k4, k6⟩
    | _ => exact h
/-- A loop with rows. -/
theorem loop_row {P : Program} {ts : List Nat} {b : S} {Q : Ex → St → Prop} {e : List (Nat × AV)} {H : List (Nat × Blk)} {nx : Nat} {σ : Type} (env : σ → List (Nat × AV)) (hp : σ → List (Nat × Blk)) (m : σ → Nat) (Inv : σ → Prop) (a : σ) (h0 : KEEP ts nx ⟨e, H, nx⟩ (fun s => s = ⟨env a, hp a, nx⟩)) (hI : Inv a)
    (hb : ∀ a, Inv a → W P b (loopK ts nx (fun s3 => ∃ a', Inv a' ∧ m a' < m a ∧ s3 = ⟨env a', hp a', nx⟩) Q) ⟨env a, hp a, nx⟩) : W P (.loop ts b) Q ⟨e, H, nx⟩ := by
  rw [W_loop]
  refine ⟨fun n s' => ∃ a, n = m a ∧ Inv a ∧ s' = ⟨env a, hp a, nx⟩, ⟨m a, ?_⟩, ?_⟩
  · exact KEEP_mono (fun s hs => ⟨a, rfl, hI, hs⟩) h0
  · rintro n s' - ⟨a, rfl, h2, rfl⟩
    refine W_mono ?_ (hb a h2)
    intro x s3 h
    cases x with
    | normal =>
      obtain ⟨k1, k2, k3, a', k4, k5, k6⟩ := h
      exact ⟨k1, k2, k3, m a', k5, a', rfl, k4, k6⟩
    | _ => exact h

end Go.Ab
end PSp0

section PDelS
/- Contracts, library: slices.Delete of one element, at [string]. -/
set_option linter.unusedVariables false
set_option linter.unusedSimpArgs false
namespace Go.Ab
open Go.Proofs

theorem delete_string_ok {l ver i : Nat} {elems : List (List CV)} {H : List (Nat × Blk)} {nx : Nat} {K : AV → List (Nat × Blk) → Nat → Prop} (hl : hget H l = some (.row ver 1 .own elems)) (hi : i < elems.length) (h63 : (elems.length : Int) ≤ 9223372036854775807)
    (hk : K (.c (.ref l (ver + 1) 0 (elems.length - 1))) (hset H l (.row (ver + 1) 1 .own (elems.take i ++ elems.drop (i + 1)))) (nx + 8)) :
    ACalls Try.prog n_slices_Delete_string_string [.c (.ref l ver 0 elems.length), vI .i64 i, vI .i64 ((i : Int) + 1)] H nx K := by
  refine a_slices_Delete_string_string (Nat.le_of_ble_eq_true rfl) ?_
  have e0 : ¬ ((i : Int) = (i : Int) + 1) := by omega
  have e1 : (0 : Int) ≤ (i : Int) + 1 := by omega
  have e2 : ((i : Int) + 1).toNat = i + 1 := by omega
  have e3 : (0 : Int) ≤ (i : Int) := by omega
  have e4 : (0 : Int) ≤ (elems.length : Int) := by omega
  have e5 : i ≤ i + 1 := by omega
  have e6 : i + 1 ≤ elems.length := by omega
  have e7 : i ≤ elems.length := by omega
  have e8 : ¬ i = elems.length := by omega
  have e9 : List.take (elems.length - (i + 1)) (List.drop (i + 1) elems) = List.drop (i + 1) elems := List.take_of_length_le (by simp)
  have e10 : i + 1 + (elems.length - (i + 1)) ≤ elems.length := by omega
  have e11 : i + (elems.length - (i + 1)) = elems.length - 1 := by omega
  have e12 : elems.length - 1 ≤ elems.length := by omega
  have e13 : (setSeg elems i (List.drop (i + 1) elems)).length = elems.length := setSeg_length _ _ _ (by simp; omega)
  have e14 : elems.length - 1 + (elems.length - (elems.length - 1)) ≤ elems.length := by omega
  have e15 : elems.length - (elems.length - 1) = 1 := by omega
  have e16 : elems.length - 1 + 1 ≤ elems.length := by omega
  have e17 : (0 : Int) ≤ ((elems.length - 1 : Nat) : Int) := by omega
  have e18 : ∀ z : List CV, (setSeg (setSeg elems i (List.drop (i + 1) elems)) (elems.length - 1) (List.replicate 1 z)).length = elems.length := fun z => by rw [setSeg_length _ _ _ (by rw [e13]; simp; omega), e13]
  have e19 : ∀ z : List CV, (setSeg (setSeg elems i (List.drop (i + 1) elems)) (elems.length - 1) (List.replicate 1 z)).take (elems.length - 1) = elems.take i ++ elems.drop (i + 1) := fun z => by
    have q1 : setSeg elems i (List.drop (i + 1) elems) = elems.take i ++ elems.drop (i + 1) ++ elems.drop (elems.length - 1) := by
      unfold setSeg
      rw [List.length_drop, show i + (elems.length - (i + 1)) = elems.length - 1 by omega]
    have q2 : (elems.take i ++ elems.drop (i + 1)).length = elems.length - 1 := by simp; omega
    rw [q1]
    unfold setSeg
    rw [List.append_assoc, List.take_append_of_le_length (by rw [List.length_take]; simp; omega), List.take_take, Nat.min_self, List.take_append_of_le_length (by omega), ← q2, List.take_length]
  simp -implicitDefEqProofs only [go_sem, s_slices_Delete_string_string, reduceIte, Nat.reduceEqDiff, lenA, sliceA, natA, hl, Int.toNat_natCast, Option.bind_eq_bind, Option.bind_some, e0, e1, e2, e3, e4, e5, e6, e7, e8, e9, e10, e11, e12, e13, e14, e15, e16, decide_false, decide_true, Nat.zero_add, Nat.le_refl, and_self, Option.isSome_some, Nat.zero_le, Nat.sub_zero, appendA, content, copyA, clearA, DOD, DO, pure0, List.length_drop, e17]
  simp -implicitDefEqProofs only [go_sem, reduceIte, Nat.reduceEqDiff, ghK, doGh, e12, e18, e19]
  exact hk
end Go.Ab
end PDelS

section PSp1
/- Contracts, part 1: names. -/
set_option linter.unusedVariables false
set_option linter.unusedSimpArgs false
namespace Go.Ab
open Go.Proofs

def okByte (c : Int) : Bool := (decide (97 ≤ c) && decide (c ≤ 122)) || (decide (48 ≤ c) && decide (c ≤ 57)) || decide (c = 45)

theorem fits_ok (c : Int) : PCalls Try.prog n_name_fits [vI .u8 c] (vB (okByte c)) := by
  refine p_name_fits (Nat.le_of_ble_eq_true rfl) rfl rfl ?_
  repeat' (first
    | simp -implicitDefEqProofs only [go_sem, s_name_fits, reduceIte, Nat.reduceEqDiff, *]
    | refine GRD_true (fun _ => ?_) (fun _ => ?_))
  all_goals simp [okByte, *]

def isName (s : List UInt8) : Bool := decide (1 ≤ s.length) && decide (s.length ≤ 12) && s.all fun c => okByte c.toNat

theorem isName_iff (s : List UInt8) : isName s = true ↔ 1 ≤ s.length ∧ s.length ≤ 12 ∧ ∀ (j : Nat) (c : UInt8), s[j]? = some c → okByte c.toNat = true := by
  simp only [isName, Bool.and_eq_true, decide_eq_true_eq, List.all_eq_true, and_assoc]
  refine and_congr_right fun _ => and_congr_right fun _ => ⟨fun h j c hj => h c (List.mem_of_getElem? hj), fun h c hc => ?_⟩
  obtain ⟨j, hj⟩ := List.getElem?_of_mem hc
  exact h j c hj

theorem nameCheck_ok (s : List UInt8) : PCalls Try.prog n_name_Check [vS s] (vI .i64 (if isName s then 0 else 2)) := by
  refine p_name_Check (Nat.le_of_ble_eq_true rfl) rfl rfl ?_
  repeat' (first
    | simp -implicitDefEqProofs only [go_sem, s_name_Check, reduceIte, Nat.reduceEqDiff, *]
    | refine GRD_true (fun _ => ?_) (fun _ => ?_)
    | refine condW_split (fun _ => ?_) (fun _ => ?_))
  · rename_i h
    have h : s = [] := by simpa using h
    subst h; rfl
  · rename_i _ h
    have h : ¬ isName s = true := by
      rw [isName_iff]
      simp only [decide_eq_true_eq] at h
      omega
    rw [if_neg h]
  · rename_i h1 h2
    simp only [decide_eq_false_iff_not] at h1 h2
    have hlen : 1 ≤ s.length ∧ s.length ≤ 12 := ⟨by cases s <;> simp_all, by omega⟩
    refine loop_up s.length 0 (fun i => [(0, vS s), (12, vI .i64 s.length), (13, vI .i64 i)]) (fun i => ∀ (j : Nat) (c : UInt8), j < i → s[j]? = some c → okByte c.toNat = true) (by omega) (by simp -implicitDefEqProofs only [go_sem, reduceIte, Nat.reduceEqDiff]; rfl) rfl (fun j c h => by omega) ?_
    intro i hi hI
    simp -implicitDefEqProofs only [go_sem, b_name_Check_0, reduceIte, Nat.reduceEqDiff]
    refine condW_split (fun h => ?_) (fun h => ?_)
    · have hlt : i < s.length := by simpa using h
      have hy : s[i]? = some s[i] := List.getElem?_eq_getElem hlt
      have hi0 : (0 : Int) ≤ i := by omega
      simp -implicitDefEqProofs only [go_sem, reduceIte, Nat.reduceEqDiff, idxSA, hy, hi0, Int.toNat_natCast]
      refine CALL_of (fits_ok _) ?_
      simp -implicitDefEqProofs only [go_sem, reduceIte, Nat.reduceEqDiff]
      refine condW_split (fun h => ?_) (fun h => ?_)
      · simp -implicitDefEqProofs only [go_sem, reduceIte, Nat.reduceEqDiff]
        have hn : ¬ isName s = true := by
          rw [isName_iff]
          rintro ⟨_, _, q⟩
          rw [q i _ hy] at h
          cases h
        rw [if_neg hn]
      · simp -implicitDefEqProofs only [go_sem, reduceIte, Nat.reduceEqDiff]
        refine ⟨hlt, fun j c hj hc => ?_, ?_⟩
        · by_cases hji : j = i
          · subst hji; rw [hy] at hc; injection hc with hc; subst hc; simpa using h
          · exact hI j c (by omega) hc
        · rw [wrap_i64 (by omega) (by omega)]; rfl
    · have hlt : ¬ i < s.length := by simpa using h
      simp -implicitDefEqProofs only [go_sem, reduceIte, Nat.reduceEqDiff]
      have hn : isName s = true := (isName_iff s).2 ⟨hlen.1, hlen.2, fun j c hc => hI j c (by have := (List.getElem?_eq_some_iff.1 hc).1; omega) hc⟩
      rw [if_pos hn]
theorem refIs_ok (s : List UInt8) (hs : (s.length : Int) ≤ 9223372036854775807) : PCalls Try.prog n_pleachref05_Is [vS s] (vB (isName s)) := by
  refine p_pleachref05_Is (Nat.le_of_ble_eq_true rfl) rfl rfl ?_
  simp -implicitDefEqProofs only [go_sem, s_pleachref05_Is, reduceIte, Nat.reduceEqDiff]
  refine loop_up s.length 0 (fun i => [(0, vS s), (3, vI .i64 i)]) (fun i => ∀ (j : Nat) (c : UInt8), j < i → s[j]? = some c → okByte c.toNat = true) (by omega) (by simp -implicitDefEqProofs only [go_sem, reduceIte, Nat.reduceEqDiff]; rfl) rfl (fun j c h => by omega) ?_
  intro i hi hI
  simp -implicitDefEqProofs only [go_sem, b_pleachref05_Is_0, reduceIte, Nat.reduceEqDiff]
  refine condW_split (fun h => ?_) (fun h => ?_)
  · have hlt : i < s.length := by simpa using h
    have hy : s[i]? = some s[i] := List.getElem?_eq_getElem hlt
    have hi0 : (0 : Int) ≤ i := by omega
    have hstep : okByte s[i].toNat = true → ∀ (j : Nat) (c : UInt8), j < i + 1 → s[j]? = some c → okByte c.toNat = true := by
      intro h j c hj hc
      by_cases hji : j = i
      · subst hji; rw [hy] at hc; injection hc with hc; subst hc; exact h
      · exact hI j c (by omega) hc
    have hbad : okByte s[i].toNat = false → isName s = false := by
      intro h
      rw [Bool.eq_false_iff, Ne, isName_iff]
      rintro ⟨_, _, q⟩
      rw [q i _ hy] at h
      cases h
    have hw : IntKind.i64.wrap ((i : Int) + 1) = ((i + 1 : Nat) : Int) := by rw [wrap_i64 (by omega) (by omega)]; rfl
    generalize hc : ((s[i].toNat : Nat) : Int) = c at *
    clear h hI
    repeat' (first
      | simp -implicitDefEqProofs only [go_sem, reduceIte, Nat.reduceEqDiff, idxSA, hy, hi0, hc, hw, Int.toNat_natCast, *]
      | refine GRD_true (fun _ => ?_) (fun _ => ?_)
      | refine condW_split (fun _ => ?_) (fun _ => ?_))
    all_goals simp only [Bool.not_eq_true', Bool.not_eq_false', decide_eq_true_eq, decide_eq_false_iff_not] at *
    all_goals first
      | (refine hstep ?_; simp only [okByte, Bool.or_eq_true, Bool.and_eq_true, decide_eq_true_eq]; omega)
      | (rw [hbad ?_]; simp only [okByte, Bool.or_eq_false_iff, Bool.and_eq_false_iff, decide_eq_false_iff_not]; omega)
  · have hlt : ¬ i < s.length := by simpa using h
    have hall : ∀ (j : Nat) (c : UInt8), s[j]? = some c → okByte c.toNat = true := fun j c hc => hI j c (by have := (List.getElem?_eq_some_iff.1 hc).1; omega) hc
    repeat' (first
      | simp -implicitDefEqProofs only [go_sem, reduceIte, Nat.reduceEqDiff, *]
      | refine GRD_true (fun _ => ?_) (fun _ => ?_))
    · rename_i h
      have h := of_decide_eq_true h
      have : isName s = decide ((s.length : Int) ≤ 12) := by
        rw [Bool.eq_iff_iff, isName_iff, decide_eq_true_eq]
        exact ⟨fun ⟨_, q, _⟩ => by omega, fun q => ⟨by omega, by omega, hall⟩⟩
      rw [this]
    · rename_i h
      have h := of_decide_eq_false h
      have : isName s = false := by
        rw [Bool.eq_false_iff, Ne, isName_iff]
        rintro ⟨q, _⟩
        omega
      rw [this]
end Go.Ab
end PSp1

section PSp2
/- Contracts, part 2: rows of names. -/
set_option linter.unusedVariables false
set_option linter.unusedSimpArgs false
namespace Go.Ab
open Go.Proofs

abbrev Str := List UInt8
abbrev encS : Str → List PV := fun s => [.str s]
abbrev lt (a b : Str) : Bool := Op.bytesLess a b

theorem lt_iff (a b : Str) : lt a b = true ↔ a < b := by rw [lt, bytesLess_eq, decide_eq_true_eq]
theorem le_eq (a b : Str) : (lt a b || decide (a = b)) = !lt b a := by
  rw [Bool.eq_iff_iff]
  simp only [Bool.or_eq_true, lt_iff, decide_eq_true_eq, Bool.not_eq_true', Bool.eq_false_iff, Ne]
  constructor
  · rintro (h | rfl)
    · exact fun h' => absurd (List.lt_trans h h') (List.lt_irrefl _)
    · exact List.lt_irrefl _
  · intro h
    rcases List.le_total a b with h' | h'
    · rcases List.le_iff_lt_or_eq.1 h' with h | h
      · exact .inl h
      · exact .inr h
    · rcases List.le_iff_lt_or_eq.1 h' with h2 | h2
      · exact absurd h2 h
      · exact .inr h2.symm

def ordBad (p : Option Str) (x : Str) : Bool :=
  match p with
  | none => false
  | some p => !lt p x
def rowE : Option Str → List Str → Int
  | _, [] => 0
  | p, x :: r => if isName x then (if ordBad p x then 4 else rowE (some x) r) else 2
def prevOf {α : Type} (l : List α) (i : Nat) : Option α := if i = 0 then none else l[i - 1]?
theorem prevOf_succ {α : Type} {l : List α} {i : Nat} {y : α} (h : l[i]? = some y) : prevOf l (i + 1) = some y := by simp [prevOf, h]
theorem drop_cons {α : Type} {l : List α} {i : Nat} {y : α} (h : l[i]? = some y) : l.drop i = y :: l.drop (i + 1) := by
  obtain ⟨hlt, rfl⟩ := List.getElem?_eq_some_iff.1 h
  exact List.drop_eq_getElem_cons hlt

theorem refRow_ok (x : Sl Str) (hl : (x.l.length : Int) ≤ 9223372036854775807) (hs : ∀ s ∈ x.l, (s.length : Int) ≤ 9223372036854775807) : PCalls Try.prog n_pleachref05_Row [x.av 1 encS] (vI .i64 (rowE none x.l)) := by
  refine p_pleachref05_Row (Nat.le_of_ble_eq_true rfl) rfl rfl ?_
  simp -implicitDefEqProofs only [go_sem, s_pleachref05_Row, reduceIte, Nat.reduceEqDiff]
  refine loop_up x.l.length 0 (fun i => [(0, x.av 1 encS), (3, vI .i64 i)]) (fun i => rowE none x.l = rowE (prevOf x.l i) (x.l.drop i)) (by omega) (by simp -implicitDefEqProofs only [go_sem, reduceIte, Nat.reduceEqDiff]; rfl) rfl (by simp [prevOf]) ?_
  intro i hi hI
  simp -implicitDefEqProofs only [go_sem, b_pleachref05_Row_0, reduceIte, Nat.reduceEqDiff]
  refine condW_split (fun h => ?_) (fun h => ?_)
  · have hlt : i < x.l.length := by simpa using h
    obtain ⟨y, hy⟩ : ∃ y, x.l[i]? = some y := ⟨_, List.getElem?_eq_getElem hlt⟩
    have hw : IntKind.i64.wrap ((i : Int) + 1) = ((i + 1 : Nat) : Int) := by rw [wrap_i64 (by omega) (by omega)]; rfl
    rw [drop_cons hy] at hI
    simp only [rowE] at hI
    simp -implicitDefEqProofs only [go_sem, reduceIte, Nat.reduceEqDiff, hy, List.length_cons, List.length_nil, Nat.zero_add, Nat.le_refl, Bool.false_eq_true]
    refine CALL_of (refIs_ok _ (hs _ (List.mem_of_getElem? hy))) ?_
    simp -implicitDefEqProofs only [go_sem, reduceIte, Nat.reduceEqDiff]
    refine condW_split (fun h => ?_) (fun h => ?_)
    · simp only [Bool.not_eq_true'] at h
      simp -implicitDefEqProofs only [go_sem, reduceIte, Nat.reduceEqDiff]
      rw [hI, h]; rfl
    · simp only [Bool.not_eq_false'] at h
      simp only [h, if_true] at hI
      simp -implicitDefEqProofs only [go_sem, reduceIte, Nat.reduceEqDiff]
      refine GRDD_true (fun hp0 => ?_) (fun hp0 => ?_)
      · have hp : 0 < i := by simpa using hp0
        obtain ⟨z, hz⟩ : ∃ z, x.l[i - 1]? = some z := ⟨_, List.getElem?_eq_getElem (by omega)⟩
        have hw1 : IntKind.i64.wrap ((i : Int) - 1) = ((i - 1 : Nat) : Int) := by rw [wrap_i64 (by omega) (by omega)]; omega
        have hpr : prevOf x.l i = some z := by simp [prevOf, hz]; omega
        rw [hpr] at hI
        simp -implicitDefEqProofs only [go_sem, reduceIte, Nat.reduceEqDiff, hp0, hy, hz, hw, hw1, List.length_cons, List.length_nil, Nat.zero_add, Nat.le_refl, Bool.false_eq_true, le_eq]
        refine condW_split (fun h => ?_) (fun h => ?_)
        · simp -implicitDefEqProofs only [go_sem, reduceIte, Nat.reduceEqDiff]
          rw [hI]; simp only [ordBad, h, if_true]
        · simp -implicitDefEqProofs only [go_sem, reduceIte, Nat.reduceEqDiff, hw]
          refine ⟨hlt, ?_⟩
          rw [hI, prevOf_succ hy]; simp only [ordBad, h, Bool.false_eq_true, if_false]
      · have hp : i = 0 := by simpa using hp0
        have hpr : prevOf x.l i = none := by simp [prevOf, hp]
        rw [hpr] at hI
        simp -implicitDefEqProofs only [go_sem, reduceIte, Nat.reduceEqDiff, hp0, hy, hw]
        refine ⟨hlt, ?_⟩
        rw [hI, prevOf_succ hy]; simp only [ordBad, Bool.false_eq_true, if_false]
  · have hlt : ¬ i < x.l.length := by simpa using h
    simp -implicitDefEqProofs only [go_sem, reduceIte, Nat.reduceEqDiff]
    rw [hI, List.drop_eq_nil_of_le (by omega)]; rfl
theorem nameRow_ok (x : Sl Str) (hl : (x.l.length : Int) ≤ 9223372036854775807) : PCalls Try.prog n_name_Row [x.av 1 encS] (vI .i64 (rowE none x.l)) := by
  refine p_name_Row (Nat.le_of_ble_eq_true rfl) rfl rfl ?_
  simp -implicitDefEqProofs only [go_sem, s_name_Row, reduceIte, Nat.reduceEqDiff]
  refine loop_up x.l.length 0 (fun i => [(0, x.av 1 encS), (6, x.av 1 encS), (7, vI .i64 x.l.length), (8, vI .i64 i)]) (fun i => rowE none x.l = rowE (prevOf x.l i) (x.l.drop i)) (by omega) (by simp -implicitDefEqProofs only [go_sem, reduceIte, Nat.reduceEqDiff]; rfl) rfl (by simp [prevOf]) ?_
  intro i hi hI
  simp -implicitDefEqProofs only [go_sem, b_name_Row_0, reduceIte, Nat.reduceEqDiff]
  refine condW_split (fun h => ?_) (fun h => ?_)
  · have hlt : i < x.l.length := by simpa using h
    obtain ⟨y, hy⟩ : ∃ y, x.l[i]? = some y := ⟨_, List.getElem?_eq_getElem hlt⟩
    have hw : IntKind.i64.wrap ((i : Int) + 1) = ((i + 1 : Nat) : Int) := by rw [wrap_i64 (by omega) (by omega)]; rfl
    rw [drop_cons hy] at hI
    simp only [rowE] at hI
    simp -implicitDefEqProofs only [go_sem, reduceIte, Nat.reduceEqDiff, hy]
    refine CALL_of (nameCheck_ok _) ?_
    cases hn : isName y with
    | false =>
      simp -implicitDefEqProofs only [go_sem, reduceIte, Nat.reduceEqDiff, Int.reduceEq, decide_false, decide_true]
      rw [hI, hn]; rfl
    | true =>
      simp only [hn, if_true] at hI
      simp -implicitDefEqProofs only [go_sem, reduceIte, Nat.reduceEqDiff, decide_true, decide_false]
      refine GRD_true (fun hp0 => ?_) (fun hp0 => ?_)
      · have hp : 0 < i := by simpa using hp0
        obtain ⟨z, hz⟩ : ∃ z, x.l[i - 1]? = some z := ⟨_, List.getElem?_eq_getElem (by omega)⟩
        have hw1 : IntKind.i64.wrap ((i : Int) - 1) = ((i - 1 : Nat) : Int) := by rw [wrap_i64 (by omega) (by omega)]; omega
        have hpr : prevOf x.l i = some z := by simp [prevOf, hz]; omega
        rw [hpr] at hI
        simp -implicitDefEqProofs only [go_sem, reduceIte, Nat.reduceEqDiff, hp0, hy, hz, hw, hw1]
        refine condW_split (fun h => ?_) (fun h => ?_)
        · simp -implicitDefEqProofs only [go_sem, reduceIte, Nat.reduceEqDiff]
          rw [hI]; simp only [ordBad, lt, h, if_true]
        · simp -implicitDefEqProofs only [go_sem, reduceIte, Nat.reduceEqDiff, hw]
          refine ⟨hlt, ?_⟩
          rw [hI, prevOf_succ hy]; simp only [ordBad, lt, h, Bool.false_eq_true, if_false]
      · have hp : i = 0 := by simpa using hp0
        have hpr : prevOf x.l i = none := by simp [prevOf, hp]
        rw [hpr] at hI
        simp -implicitDefEqProofs only [go_sem, reduceIte, Nat.reduceEqDiff, hp0, hy, hw]
        refine ⟨hlt, ?_⟩
        rw [hI, prevOf_succ hy]; simp only [ordBad, Bool.false_eq_true, if_false]
  · have hlt : ¬ i < x.l.length := by simpa using h
    simp -implicitDefEqProofs only [go_sem, reduceIte, Nat.reduceEqDiff]
    rw [hI, List.drop_eq_nil_of_le (by omega)]; rfl
end Go.Ab
end PSp2

section PSp3
/- Contracts, part 3: values. -/
set_option linter.unusedVariables false
set_option linter.unusedSimpArgs false
namespace Go.Ab
open Go.Proofs

attribute [go_sem] cellsA toPs fieldAA List.drop_zero List.drop_succ_cons Option.bind_some

structure MVal where
  kind : Int
  num : Int
  text : Str
  deriving DecidableEq
abbrev MVal.ps (v : MVal) : List PV := [.int .i64 v.kind, .int .i64 v.num, .str v.text]
abbrev aggP (l : List PV) : AV := .agg (l.map .p)
def isVal (v : MVal) : Bool :=
  (decide (v.kind = 1) && (decide (0 ≤ v.num) && decide (v.num ≤ 1) && decide (v.text = []))) || (decide (v.kind = 2) && decide (v.text = [])) ||
  (decide (v.kind = 3) && (decide (v.num = 0) && decide ((v.text.length : Int) ≤ 64)))

theorem refValIs_ok (v : MVal) : PCalls Try.prog n_pleachref06_Is [aggP v.ps] (vB (isVal v)) := by
  refine p_pleachref06_Is (Nat.le_of_ble_eq_true rfl) rfl rfl ?_
  repeat' (first
    | simp -implicitDefEqProofs only [go_sem, s_pleachref06_Is, reduceIte, Nat.reduceEqDiff, *]
    | refine GRD_true (fun _ => ?_) (fun _ => ?_)
    | refine condW_split (fun _ => ?_) (fun _ => ?_))
  all_goals simp only [decide_eq_true_eq, decide_eq_false_iff_not] at *
  all_goals simp [isVal, *]

theorem valueCheck_ok (v : MVal) : PCalls Try.prog n_value_Check [aggP v.ps] (vI .i64 (if isVal v then 0 else 2)) := by
  refine p_value_Check (Nat.le_of_ble_eq_true rfl) rfl rfl ?_
  repeat' (first
    | simp -implicitDefEqProofs only [go_sem, s_value_Check, reduceIte, Nat.reduceEqDiff, *]
    | refine GRD_true (fun _ => ?_) (fun _ => ?_)
    | refine condW_split (fun _ => ?_) (fun _ => ?_))
  all_goals simp only [decide_eq_true_eq, decide_eq_false_iff_not, Bool.not_eq_true', Bool.not_eq_false'] at *
  all_goals first
    | (simp [isVal, *]; done)
    | (rw [if_neg (by simp [isVal, *]; intro a b; omega)]; done)
end Go.Ab
end PSp3

section PSp4
/- Contracts, part 4: the library's small functions over texts. -/
set_option linter.unusedVariables false
set_option linter.unusedSimpArgs false
namespace Go.Ab
open Go.Proofs

theorem isNaN_ok (s : Str) : PCalls Try.prog n_cmp_isNaN_string [vS s] (vB false) := by
  refine p_cmp_isNaN_string (Nat.le_of_ble_eq_true rfl) rfl rfl ?_
  simp -implicitDefEqProofs only [go_sem, reduceIte, Nat.reduceEqDiff, s_cmp_isNaN_string, decide_true]
theorem isNaN'_ok (s : Str) : PCalls Try.prog n_slices_isNaN_string [vS s] (vB false) := by
  refine p_slices_isNaN_string (Nat.le_of_ble_eq_true rfl) rfl rfl ?_
  simp -implicitDefEqProofs only [go_sem, reduceIte, Nat.reduceEqDiff, s_slices_isNaN_string, decide_true]
theorem less_ok (a b : Str) : PCalls Try.prog n_cmp_Less_string [vS a, vS b] (vB (lt a b)) := by
  refine p_cmp_Less_string (Nat.le_of_ble_eq_true rfl) rfl rfl ?_
  repeat' (first | simp -implicitDefEqProofs only [go_sem, reduceIte, Nat.reduceEqDiff, s_cmp_Less_string, *] | refine CALL_of (isNaN_ok _) ?_ | refine GRD_true (fun _ => ?_) (fun _ => ?_) | refine GRDD_true (fun _ => ?_) (fun _ => ?_) | refine condW_split (fun _ => ?_) (fun _ => ?_))
/-- Which of two texts stands first: -1, 0, 1. -/
def cmpI (a b : Str) : Int := if lt a b then -1 else if lt b a then 1 else 0
theorem compare_ok (a b : Str) : PCalls Try.prog n_cmp_Compare_string [vS a, vS b] (vI .i64 (cmpI a b)) := by
  refine p_cmp_Compare_string (Nat.le_of_ble_eq_true rfl) rfl rfl ?_
  repeat' (first | simp -implicitDefEqProofs only [go_sem, reduceIte, Nat.reduceEqDiff, s_cmp_Compare_string, *] | refine CALL_of (isNaN_ok _) ?_ | refine GRD_true (fun _ => ?_) (fun _ => ?_) | refine GRDD_true (fun _ => ?_) (fun _ => ?_) | refine condW_split (fun _ => ?_) (fun _ => ?_))
  all_goals (have q := le_eq a b; simp_all [cmpI, lt])
theorem cmpI_neg (a b : Str) : (cmpI a b < 0) = (lt a b = true) := by
  unfold cmpI; split
  · simp [*]
  · split <;> simp [*]
theorem cmpI_zero (a b : Str) : (cmpI a b = 0) = (a = b) := by
  have q := le_eq a b
  unfold cmpI
  split
  · rename_i h
    have : a ≠ b := fun e => by subst e; rw [lt_iff] at h; exact List.lt_irrefl _ h
    simp [this]
  · split
    · rename_i h
      have : a ≠ b := fun e => by subst e; rw [lt_iff] at h; exact List.lt_irrefl _ h
      simp [this]
    · simp_all

/-! Rows that rise, by a key: where a key stands, or would. -/
section
variable {α : Type} (key : α → Str)
def Rises (l : List α) : Prop := l.Pairwise fun a b => lt (key a) (key b) = true
def low (l : List α) (s : Str) : Nat := l.countP fun a => lt (key a) s
def met (l : List α) (s : Str) : Bool := l.any fun a => decide (key a = s)
variable {key}
theorem lt_trans' {a b c : Str} (h : lt a b = true) (k : lt b c = true) : lt a c = true := by rw [lt_iff] at *; exact List.lt_trans h k
theorem lt_irrefl' (a : Str) : lt a a = false := by rw [Bool.eq_false_iff, Ne, lt_iff]; exact List.lt_irrefl _
theorem lt_asymm' {a b : Str} (h : lt a b = true) : lt b a = false := by
  rw [Bool.eq_false_iff]; intro k; have := lt_trans' h k; rw [lt_irrefl'] at this; cases this
/-- not above is at most -/
theorem nlt_trans {a b c : Str} (h : lt a b = true) (k : lt a c = false) : lt b c = false := by
  rw [Bool.eq_false_iff]; intro q; rw [lt_trans' h q] at k; cases k
theorem Rises.get {l : List α} (h : Rises key l) {i j : Nat} {a b : α} (hij : i < j) (ha : l[i]? = some a) (hb : l[j]? = some b) : lt (key a) (key b) = true := by
  obtain ⟨hi, rfl⟩ := List.getElem?_eq_some_iff.1 ha
  obtain ⟨hj, rfl⟩ := List.getElem?_eq_some_iff.1 hb
  exact List.pairwise_iff_getElem.1 h i j hi hj hij
theorem low_le (l : List α) (s : Str) : low key l s ≤ l.length := List.countP_le_length
/-- The place is where those below end. -/
theorem low_of {l : List α} {s : Str} {i : Nat} (hi : i ≤ l.length) (h1 : ∀ (k : Nat) (a : α), k < i → l[k]? = some a → lt (key a) s = true) (h2 : ∀ (k : Nat) (a : α), i ≤ k → l[k]? = some a → lt (key a) s = false) : low key l s = i := by
  unfold low
  rw [← List.take_append_drop i l, List.countP_append]
  have q1 : (l.take i).countP (fun a => lt (key a) s) = (l.take i).length := by
    rw [List.countP_eq_length]
    intro a ha
    obtain ⟨k, hk⟩ := List.getElem?_of_mem ha
    rw [List.getElem?_take] at hk
    split at hk
    · exact h1 k a (by assumption) hk
    · cases hk
  have q2 : (l.drop i).countP (fun a => lt (key a) s) = 0 := by
    rw [List.countP_eq_zero]
    intro a ha
    obtain ⟨k, hk⟩ := List.getElem?_of_mem ha
    rw [List.getElem?_drop] at hk
    rw [h2 _ a (by omega) hk]; decide
  rw [q1, q2, List.length_take]; omega
theorem low_spec {l : List α} (h : Rises key l) (s : Str) : (∀ (k : Nat) (a : α), k < low key l s → l[k]? = some a → lt (key a) s = true) ∧ (∀ (k : Nat) (a : α), low key l s ≤ k → l[k]? = some a → lt (key a) s = false) := by
  induction l with
  | nil => exact ⟨fun k a _ h => by simp at h, fun k a _ h => by simp at h⟩
  | cons x l ih =>
    have hx := List.pairwise_cons.1 h
    obtain ⟨i1, i2⟩ := ih hx.2
    unfold low at *
    rw [List.countP_cons]
    cases hc : lt (key x) s with
    | true =>
      simp only [if_true]
      refine ⟨fun k a hk ha => ?_, fun k a hk ha => ?_⟩
      · cases k with
        | zero => simp at ha; subst ha; exact hc
        | succ k => exact i1 k a (by omega) (by simpa using ha)
      · cases k with
        | zero => omega
        | succ k => exact i2 k a (by omega) (by simpa using ha)
    | false =>
      have hall : ∀ a ∈ l, lt (key a) s = false := fun a ha => nlt_trans (hx.1 a ha) hc
      have h0 : l.countP (fun a => lt (key a) s) = 0 := by rw [List.countP_eq_zero]; intro a ha; rw [hall a ha]; decide
      simp only [h0]
      refine ⟨fun k a hk ha => by simp at hk, fun k a hk ha => ?_⟩
      cases k with
      | zero => simp at ha; subst ha; exact hc
      | succ k => exact hall a (List.mem_of_getElem? (by simpa using ha))
/-- Met: the element at the place bears the key. -/
theorem met_low {l : List α} (h : Rises key l) (s : Str) : met key l s = match l[low key l s]? with
    | some a => decide (key a = s)
    | none => false := by
  obtain ⟨h1, h2⟩ := low_spec h s
  rw [Bool.eq_iff_iff]
  unfold met
  simp only [List.any_eq_true, decide_eq_true_eq]
  constructor
  · rintro ⟨a, ha, rfl⟩
    obtain ⟨k, hk⟩ := List.getElem?_of_mem ha
    have hle : low key l (key a) ≤ k := by
      rcases Nat.lt_or_ge k (low key l (key a)) with q | q
      · have := h1 k a q hk; rw [lt_irrefl'] at this; cases this
      · exact q
    rcases Nat.lt_or_ge (low key l (key a)) k with q | q
    · have hlt : low key l (key a) < l.length := by have := (List.getElem?_eq_some_iff.1 hk).1; omega
      obtain ⟨b, hb⟩ : ∃ b, l[low key l (key a)]? = some b := ⟨_, List.getElem?_eq_getElem hlt⟩
      have q1 := h.get q hb hk
      rw [h2 _ b (Nat.le_refl _) hb] at q1
      cases q1
    · have : low key l (key a) = k := by omega
      rw [this, hk]; simp
  · intro hm
    split at hm
    · rename_i a ha; exact ⟨a, List.mem_of_getElem? ha, by simpa using hm⟩
    · cases hm
end
end Go.Ab
end PSp4

section PSp5
/- Contracts, part 5: the search in a row that rises. -/
set_option linter.unusedVariables false
set_option linter.unusedSimpArgs false
namespace Go.Ab
open Go.Proofs
attribute [go_sem] convIA extractA Int.toNat_natCast List.getElem?_cons_zero List.getElem?_cons_succ

theorem shOp_half (m : Nat) : shOp .shr .u64 (m : Int) 1 = some (vI .u64 ((m / 2 : Nat) : Int)) := by
  unfold shOp
  rw [if_neg (by decide)]
  simp only [Option.some.injEq]
  have : (min (1 : Int).toNat IntKind.u64.bits) = 1 := by decide
  rw [this, Int.fdiv_eq_ediv_of_nonneg _ (by decide)]
  congr 4
theorem wrap_u64 {n : Int} (h0 : 0 ≤ n) (h1 : n ≤ 18446744073709551615) : IntKind.u64.wrap n = n := by
  simp only [IntKind.wrap, IntKind.bits, IntKind.signed]; simp; omega
theorem nat_add_cast (i j : Nat) : (i : Int) + (j : Int) = ((i + j : Nat) : Int) := by omega

theorem binarySearch_ok (x : Sl Str) (hx : Rises id x.l) (hlen : (x.l.length : Int) ≤ 4611686018427387903) (s : Str) :
    PCalls Try.prog n_slices_BinarySearch_string_string [x.av 1 encS, vS s] (.tup [vI .i64 (low id x.l s), vB (met id x.l s)]) := by
  refine p_slices_BinarySearch_string_string (Nat.le_of_ble_eq_true rfl) rfl rfl ?_
  simp -implicitDefEqProofs only [go_sem, reduceIte, Nat.reduceEqDiff, s_slices_BinarySearch_string_string]
  refine loop_gen (fun (a : Nat × Nat) => [(0, x.av 1 encS), (1, vS s), (6, vI .i64 x.l.length), (7, vI .i64 a.1), (8, vI .i64 a.2)]) (fun a => a.2 - a.1)
    (fun a => a.1 ≤ a.2 ∧ a.2 ≤ x.l.length ∧ (∀ (k : Nat) (b : Str), k < a.1 → x.l[k]? = some b → lt b s = true) ∧ ∀ (k : Nat) (b : Str), a.2 ≤ k → x.l[k]? = some b → lt b s = false) (0, x.l.length) ?_ (fun a => rfl) ?_ ?_
  · simp -implicitDefEqProofs only [go_sem, reduceIte, Nat.reduceEqDiff]; rfl
  · exact ⟨Nat.zero_le _, Nat.le_refl _, fun k b h => by omega, fun k b h hb => by have := (List.getElem?_eq_some_iff.1 hb).1; omega⟩
  rintro ⟨i, j⟩ ⟨h1, h2, h3, h4⟩
  simp -implicitDefEqProofs only [go_sem, reduceIte, Nat.reduceEqDiff, b_slices_BinarySearch_string_string_0]
  have hw1 : IntKind.i64.wrap ((i + j : Nat) : Int) = ((i + j : Nat) : Int) := wrap_i64 (by omega) (by omega)
  have hw2 : IntKind.u64.wrap ((i + j : Nat) : Int) = ((i + j : Nat) : Int) := wrap_u64 (by omega) (by omega)
  have hw3 : IntKind.i64.wrap (((i + j) / 2 : Nat) : Int) = (((i + j) / 2 : Nat) : Int) := wrap_i64 (by omega) (by omega)
  have hw4 : IntKind.i64.wrap ((((i + j) / 2 : Nat) : Int) + 1) = (((i + j) / 2 + 1 : Nat) : Int) := by rw [wrap_i64 (by omega) (by omega)]; rfl
  refine condW_split (fun h => ?_) (fun h => ?_)
  · have hij : i < j := by simpa using h
    have hm : (i + j) / 2 < x.l.length := by omega
    have hy : x.l[(i + j) / 2]? = some x.l[(i + j) / 2] := List.getElem?_eq_getElem hm
    generalize x.l[(i + j) / 2] = y at hy
    simp -implicitDefEqProofs only [go_sem, reduceIte, Nat.reduceEqDiff, nat_add_cast, hw1, hw2, hw3, shOp_half, hy]
    refine CALL_of (less_ok _ _) ?_
    simp -implicitDefEqProofs only [go_sem, reduceIte, Nat.reduceEqDiff]
    refine condW_split (fun hc => ?_) (fun hc => ?_)
    · simp -implicitDefEqProofs only [go_sem, reduceIte, Nat.reduceEqDiff, hw4]
      refine ⟨((i + j) / 2 + 1, j), ⟨by omega, h2, fun k b hk hb => ?_, h4⟩, by show j - ((i + j) / 2 + 1) < j - i; omega, rfl⟩
      simp only at hk
      rcases Nat.lt_or_ge k ((i + j) / 2) with q | q
      · exact lt_trans' (hx.get (key := id) q hb hy) hc
      · obtain rfl : k = (i + j) / 2 := by omega
        rw [hy] at hb; injection hb with hb; rw [← hb]; exact hc
    · simp -implicitDefEqProofs only [go_sem, reduceIte, Nat.reduceEqDiff]
      refine ⟨(i, (i + j) / 2), ⟨by show i ≤ (i + j) / 2; omega, by show (i + j) / 2 ≤ _; omega, h3, fun k b hk hb => ?_⟩, by show (i + j) / 2 - i < j - i; omega, rfl⟩
      simp only at hk
      rcases Nat.lt_or_ge ((i + j) / 2) k with q | q
      · exact nlt_trans (hx.get (key := id) q hy hb) hc
      · obtain rfl : k = (i + j) / 2 := by omega
        rw [hy] at hb; injection hb with hb; rw [← hb]; exact hc
  · have hij : i = j := by have : ¬ i < j := by simpa using h
                           omega
    subst hij
    have hlow : low id x.l s = i := low_of h2 h3 h4
    have hmet := met_low (key := id) hx s
    rw [hlow] at hmet ⊢
    simp -implicitDefEqProofs only [go_sem, reduceIte, Nat.reduceEqDiff]
    refine GRD_true (fun hc => ?_) (fun hc => ?_)
    · have hlt : i < x.l.length := by simpa using hc
      have hy : x.l[i]? = some x.l[i] := List.getElem?_eq_getElem hlt
      generalize x.l[i] = y at hy
      rw [hy] at hmet
      repeat' (first | simp -implicitDefEqProofs only [go_sem, reduceIte, Nat.reduceEqDiff, hc, hy, hmet, *] | refine CALL_of (isNaN'_ok _) ?_ | refine GRD_true (fun _ => ?_) (fun _ => ?_) | refine GRDD_true (fun _ => ?_) (fun _ => ?_) | refine condW_split (fun _ => ?_) (fun _ => ?_))
      all_goals simp_all
    · have hlt : ¬ i < x.l.length := by simpa using hc
      have hy : x.l[i]? = none := List.getElem?_eq_none (by omega)
      rw [hy] at hmet
      simp -implicitDefEqProofs only [go_sem, reduceIte, Nat.reduceEqDiff, hc, hmet]
theorem find_ok (x : Sl Str) (hx : Rises id x.l) (hlen : (x.l.length : Int) ≤ 4611686018427387903) (s : Str) :
    PCalls Try.prog n_name_Find [x.av 1 encS, vS s] (.tup [vI .i64 (low id x.l s), vB (met id x.l s)]) := by
  refine p_name_Find (Nat.le_of_ble_eq_true rfl) rfl rfl ?_
  repeat' (first | simp -implicitDefEqProofs only [go_sem, reduceIte, Nat.reduceEqDiff, s_name_Find, *] | refine CALL_of (binarySearch_ok x hx hlen s) ?_ | refine GRD_true (fun _ => ?_) (fun _ => ?_) | refine GRDD_true (fun _ => ?_) (fun _ => ?_) | refine condW_split (fun _ => ?_) (fun _ => ?_))
end Go.Ab
end PSp5

section PSp6
/- Contracts, part 6: properties, nodes, edges, ops as values. -/
set_option linter.unusedVariables false
set_option linter.unusedSimpArgs false
namespace Go.Ab
open Go.Proofs

structure MProp where
  key : Str
  val : MVal
  deriving DecidableEq
abbrev encP (p : MProp) : List PV := .str p.key :: p.val.ps
structure FNode where
  id : Str
  labels : Sl Str
  props : Sl MProp
abbrev Sl.pv {α : Type} (x : Sl α) (es : Nat) (enc : α → List PV) : PV := slP es x.k (x.l.map enc)
abbrev encN (n : FNode) : List PV := [.str n.id, n.labels.pv 1 encS, n.props.pv 4 encP]
structure FEdge where
  id : Str
  src : Str
  dst : Str
  labels : Sl Str
  props : Sl MProp
abbrev encE (n : FEdge) : List PV := [.str n.id, .str n.src, .str n.dst, n.labels.pv 1 encS, n.props.pv 4 encP]
structure MOp where
  kind : Int
  id : Str
  src : Str
  dst : Str
  key : Str
  val : MVal
  deriving DecidableEq
abbrev encO (o : MOp) : List PV := [.int .i64 o.kind, .str o.id, .str o.src, .str o.dst, .str o.key, .int .i64 o.val.kind, .int .i64 o.val.num, .str o.val.text]

theorem CALLV_p (P : Program) (f : Nat) (caps : List PV) (args : List AV) (dst : Option Nat) (s : St) (K : St → Prop) : CALLV P (.c (.p (.fn f caps))) args dst s K = CALL P f (args ++ caps.map fun c => .c (.p c)) dst s K := rfl
attribute [go_sem] CALLV_p List.take_succ_cons List.take_zero boxA
end Go.Ab
end PSp6

section PSp7
/- Contracts, part 7: copies of slices. -/
set_option linter.unusedVariables false
set_option linter.unusedSimpArgs false
namespace Go.Ab
open Go.Proofs

/-- What stands behind a copy: its row's state; the copy as a value. -/
def Sl.st {α : Type} (x : Sl α) : Own := match x.k with
  | none => .nil
  | some _ => if x.l.isEmpty then .emp else .own
def Sl.clone {α : Type} (x : Sl α) : Sl α := ⟨x.k.map fun _ => x.l.isEmpty, x.l, fun h => x.ok (by cases hk : x.k with
  | none => rfl
  | some f => rw [hk] at h; cases h)⟩
theorem Sl.st_own {α : Type} (x : Sl α) (h : x.st ≠ .own) : x.l = [] := by
  obtain ⟨k, l, ok⟩ := x
  cases k with
  | none => exact ok rfl
  | some f => cases l with
    | nil => rfl
    | cons => simp [Sl.st] at h
/-- A slice that has a block. -/
def Sl.mk' {α : Type} (l : List α) : Sl α := ⟨some false, l, fun h => by cases h⟩
/-- A row with one more; with one less. -/
def insAt {α : Type} (l : List α) (i : Nat) (a : α) : List α := l.take i ++ a :: l.drop i
def delAt {α : Type} (l : List α) (i : Nat) : List α := l.take i ++ l.drop (i + 1)
theorem ins_map {α β : Type} (f : α → β) (l : List α) (i : Nat) (a : α) : (l.map f).take i ++ f a :: (l.map f).drop i = (insAt l i a).map f := by simp [insAt, List.map_take, List.map_drop]
theorem del_map {α β : Type} (f : α → β) (l : List α) (i : Nat) : (l.map f).take i ++ (l.map f).drop (i + 1) = (delAt l i).map f := by simp [delAt, List.map_take, List.map_drop]
theorem ins_len {α : Type} (l : List α) (i : Nat) (a : α) : (insAt l i a).length = l.length + 1 := by simp [insAt]; omega
theorem del_len {α : Type} {l : List α} {i : Nat} (h : i < l.length) : (delAt l i).length = l.length - 1 := by simp [delAt]; omega
theorem ins_take {α β : Type} (f : α → β) (l : List α) (i : Nat) (a : α) : ((insAt l i a).map f).take (l.length + 1) = (insAt l i a).map f := List.take_of_length_le (by simp [ins_len])
theorem del_take {α β : Type} (f : α → β) {l : List α} {i : Nat} (h : i < l.length) : ((delAt l i).map f).take (l.length - 1) = (delAt l i).map f := List.take_of_length_le (by simp [del_len h])
attribute [go_sem] ins_len ins_take hset
theorem toPss_S (l : List Str) : toPss (l.map fun y => [CV.p (.str y)]) = some (l.map encS) := toPss_map encS l
theorem toPss_P (l : List MProp) : toPss (l.map fun y => [CV.p (.str y.key), .p (.int .i64 y.val.kind), .p (.int .i64 y.val.num), .p (.str y.val.text)]) = some (l.map encP) := toPss_map encP l
theorem toPss_N (l : List FNode) : toPss (l.map fun n => [CV.p (.str n.id), .p (n.labels.pv 1 encS), .p (n.props.pv 4 encP)]) = some (l.map encN) := toPss_map encN l
theorem toPss_E (l : List FEdge) : toPss (l.map fun n => [CV.p (.str n.id), .p (.str n.src), .p (.str n.dst), .p (n.labels.pv 1 encS), .p (n.props.pv 4 encP)]) = some (l.map encE) := toPss_map encE l
attribute [go_sem] toPss_S toPss_P toPss_N toPss_E
theorem frz_st {α : Type} (x : Sl α) (es : Nat) (enc : α → List PV) : frzPV x.st es (x.l.map enc) = x.clone.pv es enc := by
  obtain ⟨k, l, ok⟩ := x
  cases k with
  | none => obtain rfl := ok rfl; rfl
  | some f => cases l <;> rfl
end Go.Ab
end PSp7

section PWrS
/- Contracts, library: slices.Insert and slices.Delete of one element, over values, at [string]. -/
set_option linter.unusedVariables false
set_option linter.unusedSimpArgs false
namespace Go.Ab
open Go.Proofs

theorem ins_string {l lv ver verv i : Nat} {st : Own} {xl : List Str} {a : Str} {H : List (Nat × Blk)} {nx : Nat} {K : AV → List (Nat × Blk) → Nat → Prop} (hl : hget H l = some (.row ver 1 st (xl.map fun y => (encS y).map .p))) (hlv : hget H lv = some (.row verv 1 .own [(encS a).map .p])) (hne : lv ≠ l) (hi : i ≤ xl.length)
    (hby : (xl.length + 1) * 16 ≤ 140737488355328) (hk : K (.c (.ref l (ver + 1) 0 (xl.length + 1))) (hset H l (.row (ver + 1) 1 .own ((insAt xl i a).map fun y => (encS y).map .p))) nx) :
    ACalls Try.prog 136 [.c (.ref l ver 0 xl.length), vI .i64 i, .c (.ref lv verv 0 1)] H nx K := by
  have := insert_string_ok (i := i) (K := K) (nx := nx) hl hlv hne (by simpa using hi) (by simpa using hby)
  rw [ins_map (fun y => (encS y).map CV.p)] at this
  simp only [List.length_map] at this
  exact this hk
theorem del_string {l ver i : Nat} {xl : List Str} {H : List (Nat × Blk)} {nx : Nat} {K : AV → List (Nat × Blk) → Nat → Prop} (hl : hget H l = some (.row ver 1 .own (xl.map fun y => (encS y).map .p))) (hi : i < xl.length) (h63 : (xl.length : Int) ≤ 9223372036854775807)
    (hk : K (.c (.ref l (ver + 1) 0 (xl.length - 1))) (hset H l (.row (ver + 1) 1 .own ((delAt xl i).map fun y => (encS y).map .p))) (nx + 8)) :
    ACalls Try.prog n_slices_Delete_string_string [.c (.ref l ver 0 xl.length), vI .i64 i, vI .i64 ((i : Int) + 1)] H nx K := by
  have := delete_string_ok (i := i) (K := K) (nx := nx) hl (by simpa using hi) (by simpa using h63)
  rw [del_map (fun y => (encS y).map CV.p)] at this
  simp only [List.length_map] at this
  exact this hk
end Go.Ab
end PWrS

section PInP
/- Contracts, library: slices.Insert of one element, at [prop]. -/
set_option linter.unusedVariables false
set_option linter.unusedSimpArgs false
set_option maxHeartbeats 4000000
set_option maxRecDepth 100000
namespace Go.Ab
open Go.Proofs Go.RowKit Go.Lib

theorem walkA_prop (base : Option Addr) (n cap : Nat) (u : Value) (vc : Nat) (va : Option Addr) (hu : u = .slice va 1 vc) (hn : n ≤ cap) (h63 : n + 1 ≤ 9223372036854775807) (w w' : World) (v' : Value) (hr : (Builtin.append_ #[40, 40] 40 #[.slice base n cap, u]).run Try.prog w = .ok v' w') :
    Calls Try.prog 96 #[.slice base n cap, .int .i64 n, u] w fun e w1 => e = .returned v' ∧ w1 = w' := by
  subst hu
  go_enter Try.func96, Try.ntmps96
  go_wp2_with (at_builtin; refine Lib.wpList_append_run _ rfl _ _ _ _ rfl _ _ rfl rfl _ _ hr ?_)
  all_goals (go_ret; exact ⟨rfl, rfl⟩)

theorem walkC_prop (b n cap i vb vo vc : Nat) (hi : i < n) (hroom : n + 1 ≤ cap) (h63 : n + 1 ≤ 9223372036854775807) (w W1 W2 : World) (r1 r2 : Value)
    (hov : ∀ lb cb o, (callFunc 133 #[.slice (some ⟨vb, vo, none⟩) 1 vc, .slice (some ⟨b, o, none⟩) lb cb]).run Try.prog w = .ok (.value (.bool false)) w)
    (h1 : ∀ ty dc sc, (Builtin.copy_ #[40, 40] ty #[.slice (some ⟨b, (i + 1) * 4, none⟩) (n - i) dc, .slice (some ⟨b, i * 4, none⟩) (n + 1 - i) sc]).run Try.prog w.drew = .ok r1 W1)
    (h2 : ∀ ty dc vc, (Builtin.copy_ #[40, 40] ty #[.slice (some ⟨b, i * 4, none⟩) (n + 1 - i) dc, .slice (some ⟨vb, vo, none⟩) 1 vc]).run Try.prog W1 = .ok r2 W2) :
    Calls Try.prog 96 #[.slice (some ⟨b, 0, none⟩) n cap, .int .i64 i, .slice (some ⟨vb, vo, none⟩) 1 vc] w fun e w1 => e = .returned (.slice (some ⟨b, 0, none⟩) (n + 1) cap) ∧ w1 = W2 := by
  have mixed := mixed
  try simp only [Nat.mul_one] at h1 h2
  have hz2 : ¬ ((i : Int) = (n : Int)) := by omega
  have hw1 : IntKind.i64.wrap ((i : Int) + 1) = (i : Int) + 1 := by rw [IntKind.wrap_i64]; omega
  have hw2 : IntKind.i64.wrap ((n : Int) + 1) = (n : Int) + 1 := by rw [IntKind.wrap_i64]; omega
  have hb1 : (0 : Int) ≤ (i : Int) + 1 := by omega
  have hin : i ≤ n := by omega
  have htn : ((i : Int) + 1).toNat = i + 1 := by omega
  have htn2 : ((n : Int) + 1).toNat = n + 1 := by omega
  have hb2 : ¬ (cap = i + 1) := by omega
  have hb3 : (i : Int) ≤ (n : Int) + 1 := by omega
  have hb4 : ¬ (cap = i) := by omega
  have hb5 : ¬ ((cap : Int) < (n : Int) + 1) := by omega
  have hb6 : (i : Int) + 1 ≤ (n : Int) + 1 := by omega
  go_enter Try.func96, Try.ntmps96
  go_wp2_with (simp only [hov])
  go_region_law_o (refine step_copy_runI rfl _ _ 40 40 rfl _ _ (by simp [Act.eval, Act.put]) (by simp [Act.eval, Act.put]) (h1 _ _ _) ?_)
  go_wp2_with (at_builtin; refine wpList_copy_runI _ rfl _ _ 40 40 rfl _ _ rfl rfl (h2 _ _ _) ?_)
  go_ret
  exact ⟨rfl, rfl⟩
theorem walkB_prop (b n cap i vb vo vc N G : Nat) (hi : i < n) (hcn : n ≤ cap) (hroom : cap < n + 1) (hG : n + 1 ≤ G) (h63 : n + 1 ≤ 9223372036854775807) (w W1 W2 W3 : World) (r2 r3 : Value)
    (ha : ∀ kq ty, (Builtin.append_ #[40, 3] ty #[.slice (some ⟨b, 0, none⟩) i cap, .int kq ((n + 1 - i : Nat) : Int)]).run Try.prog w = .ok (.slice (some ⟨N, 0, none⟩) (n + 1) G) W1)
    (h1 : ∀ ty dc vc, (Builtin.copy_ #[40, 40] ty #[.slice (some ⟨N, i * 4, none⟩) (n + 1 - i) dc, .slice (some ⟨vb, vo, none⟩) 1 vc]).run Try.prog W1 = .ok r2 W2)
    (h2 : ∀ ty dc sc, (Builtin.copy_ #[40, 40] ty #[.slice (some ⟨N, (i + 1) * 4, none⟩) (n - i) dc, .slice (some ⟨b, i * 4, none⟩) (n - i) sc]).run Try.prog W2.drew = .ok r3 W3) :
    Calls Try.prog 96 #[.slice (some ⟨b, 0, none⟩) n cap, .int .i64 i, .slice (some ⟨vb, vo, none⟩) 1 vc] w fun e w1 => e = .returned (.slice (some ⟨N, 0, none⟩) (n + 1) G) ∧ w1 = W3 := by
  have mixed := mixed
  try simp only [Nat.mul_one] at h1 h2
  have hkk : (n : Int) + 1 - (i : Int) = ((n + 1 - i : Nat) : Int) := by omega
  have ha' : ∀ ty, (Builtin.append_ #[40, 3] ty #[.slice (some ⟨b, 0, none⟩) i cap, .int .i64 ((n : Int) + 1 - (i : Int))]).run Try.prog w = .ok (.slice (some ⟨N, 0, none⟩) (n + 1) G) W1 := fun ty => by rw [hkk]; exact ha _ _
  have hz2 : ¬ ((i : Int) = (n : Int)) := by omega
  have hw1 : IntKind.i64.wrap ((i : Int) + 1) = (i : Int) + 1 := by rw [IntKind.wrap_i64]; omega
  have hw2 : IntKind.i64.wrap ((n : Int) + 1) = (n : Int) + 1 := by rw [IntKind.wrap_i64]; omega
  have hw3 : IntKind.i64.wrap ((n : Int) + 1 - (i : Int)) = (n : Int) + 1 - (i : Int) := by rw [IntKind.wrap_i64]; omega
  have hb1 : (0 : Int) ≤ (i : Int) + 1 := by omega
  have hin : i ≤ n := by omega
  have htn : ((i : Int) + 1).toNat = i + 1 := by omega
  have hb2 : ¬ (G = i + 1) := by omega
  have hb3 : (i : Int) ≤ (n : Int) + 1 := by omega
  have hb4 : ¬ (cap = i) := by omega
  have hb5 : (cap : Int) < (n : Int) + 1 := by omega
  have hb6 : (i : Int) + 1 ≤ (n : Int) + 1 := by omega
  have hb7 : ¬ (G = i) := by omega
  have hb8 : (i : Int) ≤ (n : Int) := by omega
  have hi1 : i ≤ n + 1 := by omega
  have hic : i ≤ cap := by omega
  have hng : n + 1 ≤ G := hG
  clear hkk ha
  go_enter Try.func96, Try.ntmps96
  go_wp2_with (first
    | (at_builtin; refine Lib.wpList_append_run _ rfl _ _ _ _ rfl _ _ rfl rfl _ _ (ha' _) ?_)
    | (at_builtin; refine wpList_copy_runI _ rfl _ _ 40 40 rfl _ _ rfl rfl (h1 _ _ _) ?_))
  go_region_law_o (refine step_copy_runI rfl _ _ 40 40 rfl _ _ (by simp [Act.eval, Act.put]) (by simp [Act.eval, Act.put]) (h2 _ _ _) ?_)
  go_wp2
  go_ret
  exact ⟨rfl, rfl⟩
theorem insert_prop_ok {l lv ver verv i : Nat} {st : Own} {elems : List (List CV)} {x : List CV} {H : List (Nat × Blk)} {nx : Nat} {K : AV → List (Nat × Blk) → Nat → Prop} (hl : hget H l = some (.row ver 4 st elems)) (hlv : hget H lv = some (.row verv 4 .own [x])) (hne : lv ≠ l) (hi : i ≤ elems.length)
    (hby : (elems.length + 1) * 48 ≤ 140737488355328) (hk : K (.c (.ref l (ver + 1) 0 (elems.length + 1))) (hset H l (.row (ver + 1) 4 .own (elems.take i ++ x :: elems.drop i))) nx) :
    ACalls Try.prog 96 [.c (.ref l ver 0 elems.length), vI .i64 i, .c (.ref lv verv 0 1)] H nx K := by
  refine ⟨⟨Try.f96, Try.func96, by kernel_rfl, of_decide_eq_true (by kernel_rfl)⟩, fun w β F vals hs hsz hv => ?_⟩
  obtain ⟨vals⟩ := vals
  match vals, hsz with
  | [v0, v1, v2], _ =>
  have hv0 := hv 0 _ v0 rfl rfl
  obtain rfl := int_inv (hv 1 _ v1 rfl rfl)
  have hv2 := hv 2 _ v2 rfl rfl
  clear hv
  obtain ⟨hlt, _, ro2, ro3, ro4⟩ := ref_inv hv0 hl
  obtain ⟨hltv, _, _, _, rv4⟩ := ref_inv hv2 hlv
  obtain ⟨av, cv, rfl, hcv, hav, arrv, tyv, harrv, hszv⟩ := rv4 rfl
  have hav := hav (by omega)
  simp only [Nat.zero_mul, Nat.zero_add] at hav hszv
  subst hav
  have hup : hget (hset H l (.row (ver + 1) 4 .own (elems.take i ++ x :: elems.drop i))) = upd (hget H) l (.row (ver + 1) 4 .own (elems.take i ++ x :: elems.drop i)) := hget_hset _ _ _
  have hie : (Try.prog.info? 95).map (fun i => (i.size, i.bytes, i.zero.map fun z => z.cells.size)) = some (4, 48, some 4) := by kernel_rfl
  obtain ⟨ti, hti, hie⟩ := Option.map_eq_some_iff.1 hie
  simp only [Prod.mk.injEq] at hie
  obtain ⟨hts, htb, hie⟩ := hie
  obtain ⟨z, hz, hzs⟩ := Option.map_eq_some_iff.1 hie
  have hposl := (hs.pos _ _ _ _ _ hl)
  by_cases hin : i = elems.length
  · -- at the end
    subst hin
    have hap : appendA 4 ti.bytes (.c (.ref l ver 0 elems.length)) (.c (.ref lv verv 0 1)) nx (hget H) = some (.set (.c (.ref l (ver + 1) 0 (elems.length + 1))) l (.row (ver + 1) 4 .own (elems ++ [x]))) := by
      rw [htb]
      simp [appendA, content, hl, hlv, grown, hby]
    have hfree : Al (hget H) nx nx := .inl ⟨by
      cases hq : hget H nx with
      | none => rfl
      | some b => have := hs.dom _ _ hq; omega, Nat.le_refl _⟩
    obtain ⟨nv, v, w', β', F', hrun, hnv, hall⟩ := append_ok (ty := 40) (zc := []) hs Try.underlying40 hti hz (by rw [hts]; exact hzs) hts (by decide) Try.underlying40 rfl (by rw [htb]; decide) hv0 hv2 hfree hap
    obtain ⟨s1, s2, s3⟩ := hall nx (Nat.le_refl _) (fun q => by cases q)
    have hrun' : (Builtin.append_ #[40, 40] 40 #[v0, .slice (some ⟨β lv, 0, none⟩) 1 cv]).run Try.prog w = .ok v w' := by
      simp only [Sem.run_bind] at hrun
      generalize (Builtin.append_ #[40, 40] 40 #[v0, .slice (some ⟨β lv, 0, none⟩) 1 cv]).run Try.prog w = q at hrun ⊢
      cases q with
      | ok v' w1 =>
        simp only [Result.andThen_ok, Sem.run_pure, Result.ok.injEq] at hrun
        obtain ⟨rfl, rfl⟩ := hrun
        rcases hnv with q | ⟨q, _⟩
        · injection q with q; rw [q]
        · cases q
      | _ => cases hrun
    have hv0' : ∃ base cap, v0 = .slice base elems.length cap ∧ elems.length ≤ cap := by
      cases st with
      | nil => exact ⟨none, 0, by rw [ro2 rfl, hposl.2.2 (by decide)]; rfl, by rw [hposl.2.2 (by decide)]; exact Nat.le_refl _⟩
      | emp => obtain ⟨a, ha⟩ := ro3 rfl; exact ⟨some a, 0, by rw [ha, hposl.2.2 (by decide)]; rfl, by rw [hposl.2.2 (by decide)]; exact Nat.le_refl _⟩
      | own => obtain ⟨a, cap, rfl, hcap, _⟩ := ro4 rfl; exact ⟨some a, cap, rfl, hcap⟩
    obtain ⟨base, cap, rfl, hcap⟩ := hv0'
    refine (walkA_prop base elems.length cap _ cv _ rfl hcap (by omega) w w' v hrun').mono ?_
    rintro e w1 ⟨rfl, rfl⟩
    have he : elems.take elems.length ++ x :: elems.drop elems.length = elems ++ [x] := by simp
    rw [he] at hk hup
    refine ⟨_, _, _, v, β', F', rfl, hk, ?_, ?_, ?_⟩
    · rw [hup]; exact s1
    · rw [hup]; exact s3
    · rw [hup]; exact s2
  · have hlt' : i < elems.length := by omega
    have hst : st = .own := by
      cases st with
      | own => rfl
      | _ => rw [hposl.2.2 (by decide)] at hlt'; simp at hlt'
    subst hst
    obtain ⟨a, cap, rfl, hcap, ha, arr, ty, harr, hszl⟩ := ro4 rfl
    have ha := ha (by omega)
    simp only [Nat.zero_mul, Nat.zero_add] at ha hszl
    subst ha
    have hbne : β lv ≠ β l := fun q => hne (hs.inj _ _ ⟨_, _, _, hlv⟩ ⟨_, _, _, hl⟩ q)
    have hV : RepE w F β (hget H) nx 4 [x] (seg arrv 0 4).toArray := by
      obtain ⟨arr', ty', harr', hle', hr'⟩ := hs.row _ _ _ _ hlv
      rw [harrv] at harr'
      injection harr' with harr'
      injection harr' with q1 q2
      subst q1
      simp only [List.length_cons, List.length_nil] at hle'
      refine ⟨by simp [seg_length], fun k e he => ?_, fun k j e c he hc => ?_⟩
      · exact (hs.pos _ _ _ _ _ hlv).2.1 k e he
      · have hk : k = 0 := by have := (List.getElem?_eq_some_iff.1 he).1; simp at this; omega
        subst hk
        have hj : j < 4 := by rw [← (hs.pos _ _ _ _ _ hlv).2.1 0 e he]; exact (List.getElem?_eq_some_iff.1 hc).1
        obtain ⟨v, hv, hr⟩ := hr' 0 j e c he hc
        refine ⟨v, ?_, hr⟩
        rw [List.getElem?_toArray, Nat.zero_mul, Nat.zero_add, seg_get _ _ _ _ hj (by omega)]
        simpa using hv
    have hV1 := seg_one hs hlv harrv 0 4 (by simp)
    have hld : ∀ w' : World, w'.heap[β lv]? = w.heap[β lv]? → (loadCells ⟨β lv, 0, none⟩ 4).run Try.prog w' = .ok (seg arrv 0 4).toArray w' := fun w' hw => load_seg Try.prog (hw.trans harrv) 0 4 (by rw [← hszv]; have := Nat.mul_le_mul_right 4 hcv; omega)
    by_cases hroom : elems.length + 1 ≤ cap
    · obtain ⟨r1, W1, r2, W2, c1, c2, ⟨arr', ha1, ha2⟩, hall⟩ := ins_in (P := Try.prog) (t := 40) (e := 95) hs Try.underlying40 (by simp [tSize, hti, hts]) hl hlt' harr (by rw [← hszl]; exact Nat.mul_le_mul_right _ hroom) hV hV1 hbne hld
      obtain ⟨s1, s2⟩ := hall nx (Nat.le_refl _)
      have hov : ∀ lb cb o, (callFunc 133 #[.slice (some ⟨β lv, 0, none⟩) 1 cv, .slice (some ⟨β l, o, none⟩) lb cb]).run Try.prog w = .ok (.value (.bool false)) w := fun lb cb o => by
        rw [run_callFunc_extern Try.func133 (by kernel_rfl) (by kernel_rfl) (by kernel_rfl) (e := Extern.SlicesOverlaps.overlaps #[40, 40] #[4]) (by kernel_rfl),
          Lib.run_overlaps_apart w 40 4 95 Try.underlying40 4 Try.sizeOf95 ⟨β lv, 0, none⟩ ⟨β l, o, none⟩ 1 cv lb cb hbne tyv ty arrv.size arr.size (by simp [World.shape?, harrv]) (by simp [World.shape?, harr]) (by rw [← hszl]; have := Nat.mul_le_mul_right 4 hroom; omega) (by simp [World.frozen?, harrv]) (by simp [World.frozen?, harrv])]
        rfl
      refine (walkC_prop (β l) elems.length cap i (β lv) 0 cv hlt' hroom (by omega) w W1 W2 r1 r2 hov c1 c2).mono ?_
      rintro e w1 ⟨rfl, rfl⟩
      refine ⟨_, _, _, _, updN β l (β l), F, rfl, hk, ?_, ?_, ?_⟩
      · rw [hup]; exact s1
      · rw [hup]
        exact refVal hlt ⟨by simp; omega, (by intro q; cases q), (by intro q; cases q), fun _ => ⟨_, cap, rfl, hroom, fun _ => by simp [updN], arr', ty, by simpa [updN] using ha1, by rw [ha2, Nat.zero_add]; exact hszl⟩⟩
      · rw [hup]; exact s2
    · obtain ⟨G, W1, r2, W2, r3, W3, hG, hGm, c1, c2, c3, ⟨arr', ha1, ha2⟩, hall⟩ := ins_out (P := Try.prog) (cap := cap) (t := 40) (tn := 3) (e := 95) (kn := .i64) hs Try.underlying40 Try.underlying3 hti hts hz hzs hl hlt' harr (by omega) (by rw [htb]; exact hby) (by omega) hV hV1 (hs.block_lt ⟨_, _, _, hlv⟩) hld
      obtain ⟨s1, s2⟩ := hall nx (Nat.le_refl _)
      refine (walkB_prop (β l) elems.length cap i (β lv) 0 cv w.heap.size G hlt' hcap (by omega) hG (by omega) w W1 W2 W3 r2 r3 c1 c2 c3).mono ?_
      rintro e w1 ⟨rfl, rfl⟩
      refine ⟨_, _, _, _, updN β l w.heap.size, F, rfl, hk, ?_, ?_, ?_⟩
      · rw [hup]; exact s1
      · rw [hup]
        exact refVal hlt ⟨by simp; omega, (by intro q; cases q), (by intro q; cases q), fun _ => ⟨_, G, rfl, hG, fun _ => by simp [updN], arr', 95, by simpa [updN] using ha1, by rw [ha2, Nat.zero_add]⟩⟩
      · rw [hup]; exact s2
end Go.Ab
end PInP

section PDelP
/- Contracts, library: slices.Delete of one element, at [prop]. -/
set_option linter.unusedVariables false
set_option linter.unusedSimpArgs false
namespace Go.Ab
open Go.Proofs

theorem delete_prop_ok {l ver i : Nat} {elems : List (List CV)} {H : List (Nat × Blk)} {nx : Nat} {K : AV → List (Nat × Blk) → Nat → Prop} (hl : hget H l = some (.row ver 4 .own elems)) (hi : i < elems.length) (h63 : (elems.length : Int) ≤ 9223372036854775807)
    (hk : K (.c (.ref l (ver + 1) 0 (elems.length - 1))) (hset H l (.row (ver + 1) 4 .own (elems.take i ++ elems.drop (i + 1)))) (nx + 8)) :
    ACalls Try.prog n_slices_Delete_api_Prop_api_Prop [.c (.ref l ver 0 elems.length), vI .i64 i, vI .i64 ((i : Int) + 1)] H nx K := by
  refine a_slices_Delete_api_Prop_api_Prop (Nat.le_of_ble_eq_true rfl) ?_
  have e0 : ¬ ((i : Int) = (i : Int) + 1) := by omega
  have e1 : (0 : Int) ≤ (i : Int) + 1 := by omega
  have e2 : ((i : Int) + 1).toNat = i + 1 := by omega
  have e3 : (0 : Int) ≤ (i : Int) := by omega
  have e4 : (0 : Int) ≤ (elems.length : Int) := by omega
  have e5 : i ≤ i + 1 := by omega
  have e6 : i + 1 ≤ elems.length := by omega
  have e7 : i ≤ elems.length := by omega
  have e8 : ¬ i = elems.length := by omega
  have e9 : List.take (elems.length - (i + 1)) (List.drop (i + 1) elems) = List.drop (i + 1) elems := List.take_of_length_le (by simp)
  have e10 : i + 1 + (elems.length - (i + 1)) ≤ elems.length := by omega
  have e11 : i + (elems.length - (i + 1)) = elems.length - 1 := by omega
  have e12 : elems.length - 1 ≤ elems.length := by omega
  have e13 : (setSeg elems i (List.drop (i + 1) elems)).length = elems.length := setSeg_length _ _ _ (by simp; omega)
  have e14 : elems.length - 1 + (elems.length - (elems.length - 1)) ≤ elems.length := by omega
  have e15 : elems.length - (elems.length - 1) = 1 := by omega
  have e16 : elems.length - 1 + 1 ≤ elems.length := by omega
  have e17 : (0 : Int) ≤ ((elems.length - 1 : Nat) : Int) := by omega
  have e18 : ∀ z : List CV, (setSeg (setSeg elems i (List.drop (i + 1) elems)) (elems.length - 1) (List.replicate 1 z)).length = elems.length := fun z => by rw [setSeg_length _ _ _ (by rw [e13]; simp; omega), e13]
  have e19 : ∀ z : List CV, (setSeg (setSeg elems i (List.drop (i + 1) elems)) (elems.length - 1) (List.replicate 1 z)).take (elems.length - 1) = elems.take i ++ elems.drop (i + 1) := fun z => by
    have q1 : setSeg elems i (List.drop (i + 1) elems) = elems.take i ++ elems.drop (i + 1) ++ elems.drop (elems.length - 1) := by
      unfold setSeg
      rw [List.length_drop, show i + (elems.length - (i + 1)) = elems.length - 1 by omega]
    have q2 : (elems.take i ++ elems.drop (i + 1)).length = elems.length - 1 := by simp; omega
    rw [q1]
    unfold setSeg
    rw [List.append_assoc, List.take_append_of_le_length (by rw [List.length_take]; simp; omega), List.take_take, Nat.min_self, List.take_append_of_le_length (by omega), ← q2, List.take_length]
  simp -implicitDefEqProofs only [go_sem, s_slices_Delete_api_Prop_api_Prop, reduceIte, Nat.reduceEqDiff, lenA, sliceA, natA, hl, Int.toNat_natCast, Option.bind_eq_bind, Option.bind_some, e0, e1, e2, e3, e4, e5, e6, e7, e8, e9, e10, e11, e12, e13, e14, e15, e16, decide_false, decide_true, Nat.zero_add, Nat.le_refl, and_self, Option.isSome_some, Nat.zero_le, Nat.sub_zero, appendA, content, copyA, clearA, DOD, DO, pure0, List.length_drop, e17]
  simp -implicitDefEqProofs only [go_sem, reduceIte, Nat.reduceEqDiff, ghK, doGh, e12, e18, e19]
  exact hk
end Go.Ab
end PDelP

section PWrP
/- Contracts, library: slices.Insert and slices.Delete of one element, over values, at [prop]. -/
set_option linter.unusedVariables false
set_option linter.unusedSimpArgs false
namespace Go.Ab
open Go.Proofs

theorem ins_prop {l lv ver verv i : Nat} {st : Own} {xl : List MProp} {a : MProp} {H : List (Nat × Blk)} {nx : Nat} {K : AV → List (Nat × Blk) → Nat → Prop} (hl : hget H l = some (.row ver 4 st (xl.map fun y => (encP y).map .p))) (hlv : hget H lv = some (.row verv 4 .own [(encP a).map .p])) (hne : lv ≠ l) (hi : i ≤ xl.length)
    (hby : (xl.length + 1) * 48 ≤ 140737488355328) (hk : K (.c (.ref l (ver + 1) 0 (xl.length + 1))) (hset H l (.row (ver + 1) 4 .own ((insAt xl i a).map fun y => (encP y).map .p))) nx) :
    ACalls Try.prog 96 [.c (.ref l ver 0 xl.length), vI .i64 i, .c (.ref lv verv 0 1)] H nx K := by
  have := insert_prop_ok (i := i) (K := K) (nx := nx) hl hlv hne (by simpa using hi) (by simpa using hby)
  rw [ins_map (fun y => (encP y).map CV.p)] at this
  simp only [List.length_map] at this
  exact this hk
theorem del_prop {l ver i : Nat} {xl : List MProp} {H : List (Nat × Blk)} {nx : Nat} {K : AV → List (Nat × Blk) → Nat → Prop} (hl : hget H l = some (.row ver 4 .own (xl.map fun y => (encP y).map .p))) (hi : i < xl.length) (h63 : (xl.length : Int) ≤ 9223372036854775807)
    (hk : K (.c (.ref l (ver + 1) 0 (xl.length - 1))) (hset H l (.row (ver + 1) 4 .own ((delAt xl i).map fun y => (encP y).map .p))) (nx + 8)) :
    ACalls Try.prog n_slices_Delete_api_Prop_api_Prop [.c (.ref l ver 0 xl.length), vI .i64 i, vI .i64 ((i : Int) + 1)] H nx K := by
  have := delete_prop_ok (i := i) (K := K) (nx := nx) hl (by simpa using hi) (by simpa using h63)
  rw [del_map (fun y => (encP y).map CV.p)] at this
  simp only [List.length_map] at this
  exact this hk
end Go.Ab
end PWrP

section PCloS
/- Contracts, library: slices.Clone at [string]. -/
set_option linter.unusedVariables false
set_option linter.unusedSimpArgs false
namespace Go.Ab
open Go.Proofs

theorem clone_string_row (x : Sl Str) (hby : x.l.length * 16 ≤ 140737488355328) {H : List (Nat × Blk)} {nx : Nat} {K : AV → List (Nat × Blk) → Nat → Prop}
    (hk : K (.c (.ref (nx + 1) 0 0 x.l.length)) ((nx + 1, .row 0 1 x.st (x.l.map fun y => (encS y).map .p)) :: (nx, .row 0 1 .nil []) :: H) (nx + 2)) :
    ACalls Try.prog n_slices_Clone_string_string [x.av 1 encS] H nx K := by
  refine a_slices_Clone_string_string (Nat.le_of_ble_eq_true rfl) ?_
  obtain ⟨k, l, ok⟩ := x
  cases k with
  | none =>
    obtain rfl := ok rfl
    simp -implicitDefEqProofs only [go_sem, reduceIte, Nat.reduceEqDiff, s_slices_Clone_string_string, Sl.av, slP, isNilK, neg, Nat.add_assoc]
    exact hk
  | some f =>
    simp -implicitDefEqProofs only [go_sem, reduceIte, Nat.reduceEqDiff, s_slices_Clone_string_string, Sl.av, slP, isNilK, neg, Nat.add_assoc, litA, toPss, Option.bind_some, appendA, content, hby, List.map_map, List.length_map, and_self]
    cases l <;> exact hk
theorem clone_string_ok (x : Sl Str) (hby : x.l.length * 16 ≤ 140737488355328) : PCalls Try.prog n_slices_Clone_string_string [x.av 1 encS] (x.clone.av 1 encS) := by
  refine .of rfl (clone_string_row x hby ?_) rfl
  simp -implicitDefEqProofs only [go_sem, reduceIte, Nat.reduceEqDiff, frz_st]
end Go.Ab
end PCloS

section PCloP
/- Contracts, library: slices.Clone at [prop]. -/
set_option linter.unusedVariables false
set_option linter.unusedSimpArgs false
namespace Go.Ab
open Go.Proofs

theorem clone_prop_row (x : Sl MProp) (hby : x.l.length * 48 ≤ 140737488355328) {H : List (Nat × Blk)} {nx : Nat} {K : AV → List (Nat × Blk) → Nat → Prop}
    (hk : K (.c (.ref (nx + 1) 0 0 x.l.length)) ((nx + 1, .row 0 4 x.st (x.l.map fun y => (encP y).map .p)) :: (nx, .row 0 4 .nil []) :: H) (nx + 2)) :
    ACalls Try.prog n_slices_Clone_api_Prop_api_Prop [x.av 4 encP] H nx K := by
  refine a_slices_Clone_api_Prop_api_Prop (Nat.le_of_ble_eq_true rfl) ?_
  obtain ⟨k, l, ok⟩ := x
  cases k with
  | none =>
    obtain rfl := ok rfl
    simp -implicitDefEqProofs only [go_sem, reduceIte, Nat.reduceEqDiff, s_slices_Clone_api_Prop_api_Prop, Sl.av, slP, isNilK, neg, Nat.add_assoc]
    exact hk
  | some f =>
    simp -implicitDefEqProofs only [go_sem, reduceIte, Nat.reduceEqDiff, s_slices_Clone_api_Prop_api_Prop, Sl.av, slP, isNilK, neg, Nat.add_assoc, litA, toPss, Option.bind_some, appendA, content, hby, List.map_map, List.length_map, and_self]
    cases l <;> exact hk
theorem clone_prop_ok (x : Sl MProp) (hby : x.l.length * 48 ≤ 140737488355328) : PCalls Try.prog n_slices_Clone_api_Prop_api_Prop [x.av 4 encP] (x.clone.av 4 encP) := by
  refine .of rfl (clone_prop_row x hby ?_) rfl
  simp -implicitDefEqProofs only [go_sem, reduceIte, Nat.reduceEqDiff, frz_st]
end Go.Ab
end PCloP

section PBsP
/- Contracts, library: the search in a row that rises, at [prop]. -/
set_option linter.unusedVariables false
set_option linter.unusedSimpArgs false
namespace Go.Ab
open Go.Proofs

theorem closure_prop_ok (y : MProp) (s : Str) : PCalls Try.prog n_elem_find_1 [aggP (encP y), vS s] (vI .i64 (cmpI y.key s)) := by
  refine p_elem_find_1 (Nat.le_of_ble_eq_true rfl) rfl rfl ?_
  repeat' (first | simp -implicitDefEqProofs only [go_sem, reduceIte, Nat.reduceEqDiff, s_elem_find_1, encP, Option.bind_some, toPs, *] | refine CALL_of (compare_ok _ _) ?_ | refine GRD_true (fun _ => ?_) (fun _ => ?_) | refine GRDD_true (fun _ => ?_) (fun _ => ?_) | refine condW_split (fun _ => ?_) (fun _ => ?_))
theorem search_prop_W (sv : AV) (H : List (Nat × Blk)) (nx : Nat) (xl : List MProp) (pt : Nat → AV) (hlA : lenA sv (hget H) = some (vI .i64 xl.length)) (hidx : ∀ (i : Nat) (y : MProp), xl[i]? = some y → idxAA 4 sv (vI .i64 i) (hget H) = some (pt i) ∧ loadA true 4 (pt i) (hget H) = some (aggP (encP y)))
    (hsv : idsA nx sv = true) (hkH : keepH nx H = H) (hkB : H.all (fun x => idsB nx x.2) = true) (hx : Rises MProp.key xl) (hlen : (xl.length : Int) ≤ 4611686018427387903) (s : Str) {K : AV → List (Nat × Blk) → Nat → Prop} (hk : K (.tup [vI .i64 (low MProp.key xl s), vB (met MProp.key xl s)]) H nx) :
    W Try.prog s_slices_BinarySearchFunc_api_Prop_api_Prop_string (RETK r_slices_BinarySearchFunc_api_Prop_api_Prop_string K) ⟨argE 0 [sv, vS s, .c (.p (.fn n_elem_find_1 []))], H, nx⟩ := by
  simp -implicitDefEqProofs only [go_sem, reduceIte, Nat.reduceEqDiff, s_slices_BinarySearchFunc_api_Prop_api_Prop_string, hlA]
  refine loop_row (fun (a : Nat × Nat) => [(0, sv), (1, vS s), (2, .c (.p (.fn n_elem_find_1 []))), (8, vI .i64 xl.length), (9, vI .i64 a.1), (10, vI .i64 a.2)]) (fun _ => H) (fun a => a.2 - a.1)
    (fun a => a.1 ≤ a.2 ∧ a.2 ≤ xl.length ∧ (∀ (k : Nat) (b : MProp), k < a.1 → xl[k]? = some b → lt b.key s = true) ∧ ∀ (k : Nat) (b : MProp), a.2 ≤ k → xl[k]? = some b → lt b.key s = false) (0, xl.length) ?_ ?_ ?_
  · simp -implicitDefEqProofs only [go_sem, reduceIte, Nat.reduceEqDiff, KEEP, hkH, hkB, hsv]; rfl
  · exact ⟨Nat.zero_le _, Nat.le_refl _, fun k b h => by omega, fun k b h hb => by have := (List.getElem?_eq_some_iff.1 hb).1; omega⟩
  rintro ⟨i, j⟩ ⟨h1, h2, h3, h4⟩
  simp -implicitDefEqProofs only [go_sem, reduceIte, Nat.reduceEqDiff, b_slices_BinarySearchFunc_api_Prop_api_Prop_string_0]
  have hw1 : IntKind.i64.wrap ((i + j : Nat) : Int) = ((i + j : Nat) : Int) := wrap_i64 (by omega) (by omega)
  have hw2 : IntKind.u64.wrap ((i + j : Nat) : Int) = ((i + j : Nat) : Int) := wrap_u64 (by omega) (by omega)
  have hw3 : IntKind.i64.wrap (((i + j) / 2 : Nat) : Int) = (((i + j) / 2 : Nat) : Int) := wrap_i64 (by omega) (by omega)
  have hw4 : IntKind.i64.wrap ((((i + j) / 2 : Nat) : Int) + 1) = (((i + j) / 2 + 1 : Nat) : Int) := by rw [wrap_i64 (by omega) (by omega)]; rfl
  refine condW_split (fun h => ?_) (fun h => ?_)
  · have hij : i < j := by simpa using h
    have hm : (i + j) / 2 < xl.length := by omega
    have hy : xl[(i + j) / 2]? = some xl[(i + j) / 2] := List.getElem?_eq_getElem hm
    generalize xl[(i + j) / 2] = y at hy
    simp -implicitDefEqProofs only [go_sem, reduceIte, Nat.reduceEqDiff, nat_add_cast, hw1, hw2, hw3, shOp_half, (hidx _ _ hy).1, (hidx _ _ hy).2]
    refine CALL_of (closure_prop_ok y s) ?_
    simp -implicitDefEqProofs only [go_sem, reduceIte, Nat.reduceEqDiff]
    refine condW_split (fun hc => ?_) (fun hc => ?_)
    · have hc : lt y.key s = true := by rw [decide_eq_true_eq, cmpI_neg] at hc; exact hc
      simp -implicitDefEqProofs only [go_sem, reduceIte, Nat.reduceEqDiff, hw4, KEEP, hkH, hkB, hsv]
      refine ⟨((i + j) / 2 + 1, j), ⟨by omega, h2, fun k b hk hb => ?_, h4⟩, by show j - ((i + j) / 2 + 1) < j - i; omega, rfl⟩
      simp only at hk
      rcases Nat.lt_or_ge k ((i + j) / 2) with q | q
      · exact lt_trans' (hx.get q hb hy) hc
      · obtain rfl : k = (i + j) / 2 := by omega
        rw [hy] at hb; injection hb with hb; rw [← hb]; exact hc
    · have hc : lt y.key s = false := by rw [decide_eq_false_iff_not, cmpI_neg] at hc; simpa using hc
      simp -implicitDefEqProofs only [go_sem, reduceIte, Nat.reduceEqDiff, KEEP, hkH, hkB, hsv]
      refine ⟨(i, (i + j) / 2), ⟨by show i ≤ (i + j) / 2; omega, by show (i + j) / 2 ≤ _; omega, h3, fun k b hk hb => ?_⟩, by show (i + j) / 2 - i < j - i; omega, rfl⟩
      simp only at hk
      rcases Nat.lt_or_ge ((i + j) / 2) k with q | q
      · exact nlt_trans (hx.get q hy hb) hc
      · obtain rfl : k = (i + j) / 2 := by omega
        rw [hy] at hb; injection hb with hb; rw [← hb]; exact hc
  · have hij : i = j := by have : ¬ i < j := by simpa using h
                           omega
    subst hij
    have hlow : low MProp.key xl s = i := low_of h2 h3 h4
    have hmet := met_low hx s
    rw [hlow] at hmet hk
    simp -implicitDefEqProofs only [go_sem, reduceIte, Nat.reduceEqDiff]
    refine GRD_true (fun hc => ?_) (fun hc => ?_)
    · have hlt : i < xl.length := by simpa using hc
      have hy : xl[i]? = some xl[i] := List.getElem?_eq_getElem hlt
      generalize xl[i] = y at hy
      rw [hy] at hmet
      simp -implicitDefEqProofs only [go_sem, reduceIte, Nat.reduceEqDiff, hc, (hidx _ _ hy).1, (hidx _ _ hy).2, hmet]
      refine CALL_of (closure_prop_ok y s) ?_
      simp -implicitDefEqProofs only [go_sem, reduceIte, Nat.reduceEqDiff, cmpI_zero]
      rw [hmet] at hk; exact hk
    · have hlt : ¬ i < xl.length := by simpa using hc
      have hy : xl[i]? = none := List.getElem?_eq_none (by omega)
      rw [hy] at hmet
      simp -implicitDefEqProofs only [go_sem, reduceIte, Nat.reduceEqDiff, hc, hmet]
      rw [hmet] at hk; exact hk
theorem search_prop_ok (x : Sl MProp) (hx : Rises MProp.key x.l) (hlen : (x.l.length : Int) ≤ 4611686018427387903) (s : Str) :
    PCalls Try.prog n_slices_BinarySearchFunc_api_Prop_api_Prop_string [x.av 4 encP, vS s, .c (.p (.fn n_elem_find_1 []))] (.tup [vI .i64 (low MProp.key x.l s), vB (met MProp.key x.l s)]) := by
  refine p_slices_BinarySearchFunc_api_Prop_api_Prop_string (Nat.le_of_ble_eq_true rfl) rfl rfl ?_
  refine search_prop_W (x.av 4 encP) [] 0 x.l (fun i => match x.l[i]? with | some y => .c (.p (.ptr (encP y))) | none => .u) (lenA_sl x _ _ _) (fun i y hy => ?_) rfl rfl rfl hx hlen s rfl
  rw [idxAA_sl, hy]
  exact ⟨rfl, rfl⟩
theorem rowLen_prop {l ver : Nat} {st : Own} {xl : List MProp} {H : Heap} (h : H l = some (.row ver 4 st (xl.map fun y => (encP y).map .p))) : lenA (.c (.ref l ver 0 xl.length)) H = some (vI .i64 xl.length) := by simp [lenA, h]
theorem rowIdx_prop {l ver : Nat} {st : Own} {xl : List MProp} {H : Heap} (h : H l = some (.row ver 4 st (xl.map fun y => (encP y).map .p))) (ho : st ≠ .own → xl = []) (i : Nat) (y : MProp) (hy : xl[i]? = some y) :
    idxAA 4 (.c (.ref l ver 0 xl.length)) (vI .i64 i) H = some (.c (.ptr l ver i 0)) ∧ loadA true 4 (.c (.ptr l ver i 0)) H = some (aggP (encP y)) := by
  have hi : i < xl.length := (List.getElem?_eq_some_iff.1 hy).1
  have hst : st = .own := by
    cases st with
    | own => rfl
    | _ => rw [ho (by decide)] at hi; simp at hi
  subst hst
  constructor
  · simp [idxAA, rowOf, h, hi]
  · simp [loadA, cellA, rowOf, h, hy, segA]
theorem search_prop_row {l ver nx : Nat} {st : Own} {xl : List MProp} (ho : st ≠ .own → xl = []) (hl : l < nx) (hx : Rises MProp.key xl) (hlen : (xl.length : Int) ≤ 4611686018427387903) (s : Str) {K : AV → List (Nat × Blk) → Nat → Prop} (hk : K (.tup [vI .i64 (low MProp.key xl s), vB (met MProp.key xl s)]) [(l, .row ver 4 st (xl.map fun y => (encP y).map .p))] nx) :
    ACalls Try.prog n_slices_BinarySearchFunc_api_Prop_api_Prop_string [.c (.ref l ver 0 xl.length), vS s, .c (.p (.fn n_elem_find_1 []))] [(l, .row ver 4 st (xl.map fun y => (encP y).map .p))] nx K := by
  have h : hget [(l, .row ver 4 st (xl.map fun y => (encP y).map .p))] l = some (.row ver 4 st (xl.map fun y => (encP y).map CV.p)) := by simp [hget]
  refine a_slices_BinarySearchFunc_api_Prop_api_Prop_string (Nat.le_of_ble_eq_true rfl) ?_
  exact search_prop_W _ _ nx xl (fun i => .c (.ptr l ver i 0)) (rowLen_prop h) (rowIdx_prop h ho) (by simp [idsA, idsC, hl]) (by simp [keepH, hl]) (by simp [idsB, idsC]) hx hlen s hk
end Go.Ab
end PBsP

section PSp8
/- Contracts, part 8: rows of names, rows of properties, with one more or one less. -/
set_option linter.unusedVariables false
set_option linter.unusedSimpArgs false
namespace Go.Ab
open Go.Proofs

theorem low_met_lt {α : Type} {key : α → Str} {l : List α} (hx : Rises key l) {s : Str} (h : met key l s = true) : low key l s < l.length := by
  rw [met_low hx] at h
  split at h
  · exact (List.getElem?_eq_some_iff.1 ‹_›).1
  · cases h
theorem with_ok (x : Sl Str) (hx : Rises id x.l) (hlen : x.l.length ≤ 1000000000000) (s : Str) :
    PCalls Try.prog n_name_With [x.av 1 encS, vS s] (.tup [if met id x.l s then x.clone.av 1 encS else (Sl.mk' (insAt x.l (low id x.l s) s)).av 1 encS, vB (!met id x.l s)]) := by
  refine p_name_With (Nat.le_of_ble_eq_true rfl) rfl (by cases met id x.l s <;> rfl) ?_
  simp -implicitDefEqProofs only [go_sem, reduceIte, Nat.reduceEqDiff, s_name_With]
  refine CALL_of (find_ok x hx (by omega) s) ?_
  simp -implicitDefEqProofs only [go_sem, reduceIte, Nat.reduceEqDiff]
  cases hm : met id x.l s with
  | true =>
    simp -implicitDefEqProofs only [go_sem, reduceIte, Nat.reduceEqDiff]
    refine CALL_of (clone_string_ok x (by omega)) ?_
    simp -implicitDefEqProofs only [go_sem, reduceIte, Nat.reduceEqDiff]
  | false =>
    simp -implicitDefEqProofs only [go_sem, reduceIte, Nat.reduceEqDiff]
    refine .of (clone_string_row x (by omega) ?_)
    simp -implicitDefEqProofs only [go_sem, reduceIte, Nat.reduceEqDiff, litA]
    refine .of (ins_string (xl := x.l) (a := s) rfl rfl (by decide) (low_le _ _) (by omega) ?_)
    simp -implicitDefEqProofs only [go_sem, reduceIte, Nat.reduceEqDiff]
    rfl
theorem without_ok (x : Sl Str) (hx : Rises id x.l) (hlen : x.l.length ≤ 1000000000000) (s : Str) :
    PCalls Try.prog n_name_Without [x.av 1 encS, vS s] (.tup [if met id x.l s then (Sl.mk' (delAt x.l (low id x.l s))).av 1 encS else x.clone.av 1 encS, vB (met id x.l s)]) := by
  refine p_name_Without (Nat.le_of_ble_eq_true rfl) rfl (by cases met id x.l s <;> rfl) ?_
  simp -implicitDefEqProofs only [go_sem, reduceIte, Nat.reduceEqDiff, s_name_Without]
  refine CALL_of (find_ok x hx (by omega) s) ?_
  simp -implicitDefEqProofs only [go_sem, reduceIte, Nat.reduceEqDiff]
  cases hm : met id x.l s with
  | true =>
    have hlt := low_met_lt hx hm
    have hst : x.st = .own := Decidable.byContradiction fun h => by rw [x.st_own h] at hlt; simp at hlt
    simp -implicitDefEqProofs only [go_sem, reduceIte, Nat.reduceEqDiff]
    refine .of (clone_string_row x (by omega) ?_)
    simp -implicitDefEqProofs only [go_sem, reduceIte, Nat.reduceEqDiff, wrap_i64 (show -9223372036854775808 ≤ (low id x.l s : Int) + 1 by omega) (by omega)]
    refine .of (del_string (xl := x.l) (by rw [hst]; rfl) hlt (by omega) ?_)
    simp -implicitDefEqProofs only [go_sem, reduceIte, Nat.reduceEqDiff, del_len hlt, del_take _ hlt]
    rfl
  | false =>
    simp -implicitDefEqProofs only [go_sem, reduceIte, Nat.reduceEqDiff]
    refine CALL_of (clone_string_ok x (by omega)) ?_
    simp -implicitDefEqProofs only [go_sem, reduceIte, Nat.reduceEqDiff]
end Go.Ab
end PSp8

section PSp9
/- Contracts, part 9: labels and properties that come and go: the program's. -/
set_option linter.unusedVariables false
set_option linter.unusedSimpArgs false
namespace Go.Ab
open Go.Proofs
theorem mk'_l {α : Type} (l : List α) : (Sl.mk' l).l = l := rfl
attribute [go_sem] mk'_l Int.reduceEq decide_true decide_false Int.reduceLT

def Sl.none {α : Type} : Sl α := ⟨Option.none, [], fun _ => rfl⟩
/-- What becomes of labels; of properties. -/
def labelR (x : Sl Str) (s : Str) : Sl Str × Int :=
  if isName s then (if met id x.l s then (.none, 10) else if (8 : Int) ≤ (x.l.length : Int) then (.none, 5) else (.mk' (insAt x.l (low id x.l s) s), 0)) else (.none, 2)
def unlabelR (x : Sl Str) (s : Str) : Sl Str × Int := if met id x.l s then (.mk' (delAt x.l (low id x.l s)), 0) else (.none, 9)

theorem elemLabel_ok (x : Sl Str) (hx : Rises id x.l) (hlen : x.l.length ≤ 1000000000000) (s : Str) :
    PCalls Try.prog n_elem_Label [x.av 1 encS, vS s] (.tup [(labelR x s).1.av 1 encS, vI .i64 (labelR x s).2]) := by
  refine p_elem_Label (Nat.le_of_ble_eq_true rfl) rfl rfl ?_
  have h9 : ((8 : Int) < ((x.l.length + 1 : Nat) : Int)) = ((8 : Int) ≤ (x.l.length : Int)) := by rw [eq_iff_iff]; omega
  by_cases h8 : (8 : Int) ≤ (x.l.length : Int) <;> cases hn : isName s <;> cases hm : met id x.l s <;> repeat' (first | simp -implicitDefEqProofs only [go_sem, reduceIte, Nat.reduceEqDiff, s_elem_Label, hn, hm, labelR, *] | refine CALL_of (nameCheck_ok s) ?_ | refine CALL_of (with_ok x hx hlen s) ?_ | refine GRD_true (fun _ => ?_) (fun _ => ?_) | refine GRDD_true (fun _ => ?_) (fun _ => ?_) | refine condW_split (fun _ => ?_) (fun _ => ?_))
  all_goals rfl
theorem elemUnlabel_ok (x : Sl Str) (hx : Rises id x.l) (hlen : x.l.length ≤ 1000000000000) (s : Str) :
    PCalls Try.prog n_elem_Unlabel [x.av 1 encS, vS s] (.tup [(unlabelR x s).1.av 1 encS, vI .i64 (unlabelR x s).2]) := by
  refine p_elem_Unlabel (Nat.le_of_ble_eq_true rfl) rfl rfl ?_
  cases hm : met id x.l s <;> repeat' (first | simp -implicitDefEqProofs only [go_sem, reduceIte, Nat.reduceEqDiff, s_elem_Unlabel, hm, unlabelR, *] | refine CALL_of (without_ok x hx hlen s) ?_ | refine GRD_true (fun _ => ?_) (fun _ => ?_) | refine GRDD_true (fun _ => ?_) (fun _ => ?_) | refine condW_split (fun _ => ?_) (fun _ => ?_))
  all_goals rfl

def setR (x : Sl MProp) (s : Str) (v : MVal) : Sl MProp × Int :=
  if isName s && isVal v then (if met MProp.key x.l s then (.mk' (x.l.set (low MProp.key x.l s) ⟨s, v⟩), 0) else if (8 : Int) ≤ (x.l.length : Int) then (.none, 5) else (.mk' (insAt x.l (low MProp.key x.l s) ⟨s, v⟩), 0)) else (.none, 2)
def unsetR (x : Sl MProp) (s : Str) : Sl MProp × Int := if met MProp.key x.l s then (.mk' (delAt x.l (low MProp.key x.l s)), 0) else (.none, 9)

theorem elemFind_ok (x : Sl MProp) (hx : Rises MProp.key x.l) (hlen : (x.l.length : Int) ≤ 4611686018427387903) (s : Str) :
    PCalls Try.prog n_elem_find [x.av 4 encP, vS s] (.tup [vI .i64 (low MProp.key x.l s), vB (met MProp.key x.l s)]) := by
  refine p_elem_find (Nat.le_of_ble_eq_true rfl) rfl rfl ?_
  repeat' (first | simp -implicitDefEqProofs only [go_sem, reduceIte, Nat.reduceEqDiff, s_elem_find, *] | refine CALL_of (search_prop_ok x hx hlen s) ?_ | refine GRD_true (fun _ => ?_) (fun _ => ?_) | refine GRDD_true (fun _ => ?_) (fun _ => ?_) | refine condW_split (fun _ => ?_) (fun _ => ?_))
theorem elemUnset_ok (x : Sl MProp) (hx : Rises MProp.key x.l) (hlen : x.l.length ≤ 1000000000000) (s : Str) :
    PCalls Try.prog n_elem_Unset [x.av 4 encP, vS s] (.tup [(unsetR x s).1.av 4 encP, vI .i64 (unsetR x s).2]) := by
  refine p_elem_Unset (Nat.le_of_ble_eq_true rfl) rfl rfl ?_
  simp -implicitDefEqProofs only [go_sem, reduceIte, Nat.reduceEqDiff, s_elem_Unset]
  refine CALL_of (elemFind_ok x hx (by omega) s) ?_
  simp -implicitDefEqProofs only [go_sem, reduceIte, Nat.reduceEqDiff]
  cases hm : met MProp.key x.l s with
  | true =>
    have hlt := low_met_lt hx hm
    have hst : x.st = .own := Decidable.byContradiction fun h => by rw [x.st_own h] at hlt; simp at hlt
    simp -implicitDefEqProofs only [go_sem, reduceIte, Nat.reduceEqDiff]
    refine .of (clone_prop_row x (by omega) ?_)
    simp -implicitDefEqProofs only [go_sem, reduceIte, Nat.reduceEqDiff, wrap_i64 (show -9223372036854775808 ≤ (low MProp.key x.l s : Int) + 1 by omega) (by omega)]
    refine .of (del_prop (xl := x.l) (by rw [hst]; rfl) hlt (by omega) ?_)
    simp -implicitDefEqProofs only [go_sem, reduceIte, Nat.reduceEqDiff, del_len hlt, del_take _ hlt, unsetR, hm]
    rfl
  | false =>
    simp -implicitDefEqProofs only [go_sem, reduceIte, Nat.reduceEqDiff, unsetR, hm]
    rfl
/-- The property at a place has another value. -/
theorem elemSet_ok (x : Sl MProp) (hx : Rises MProp.key x.l) (hlen : x.l.length ≤ 1000000000000) (s : Str) (v : MVal) :
    PCalls Try.prog n_elem_Set [x.av 4 encP, vS s, aggP v.ps] (.tup [(setR x s v).1.av 4 encP, vI .i64 (setR x s v).2]) := by
  refine p_elem_Set (Nat.le_of_ble_eq_true rfl) rfl rfl ?_
  have hgo : isName s = true → isVal v = true → W Try.prog s_elem_Set (RETK r_elem_Set fun a H _ => FRZ (.tup [(setR x s v).1.av 4 encP, vI .i64 (setR x s v).2]) a H) ⟨argE 0 [x.av 4 encP, vS s, aggP v.ps], [], 0⟩ := by
    intro hn hv
    simp -implicitDefEqProofs only [go_sem, reduceIte, Nat.reduceEqDiff, s_elem_Set]
    refine CALL_of (nameCheck_ok s) ?_
    simp -implicitDefEqProofs only [go_sem, reduceIte, Nat.reduceEqDiff, hn]
    refine CALL_of (valueCheck_ok v) ?_
    simp -implicitDefEqProofs only [go_sem, reduceIte, Nat.reduceEqDiff, hv]
    refine .of (clone_prop_row x (by omega) ?_)
    simp -implicitDefEqProofs only [go_sem, reduceIte, Nat.reduceEqDiff]
    refine CALL_of (elemFind_ok x hx (by omega) s) ?_
    simp -implicitDefEqProofs only [go_sem, reduceIte, Nat.reduceEqDiff]
    cases hm : met MProp.key x.l s with
    | true =>
      have hlt := low_met_lt hx hm
      have hst : x.st = .own := Decidable.byContradiction fun h => by rw [x.st_own h] at hlt; simp at hlt
      obtain ⟨y, hy⟩ : ∃ y, x.l[low MProp.key x.l s]? = some y := ⟨_, List.getElem?_eq_getElem hlt⟩
      have hk : y.key = s := by
        have := met_low hx s
        rw [hm, hy] at this
        simpa using this.symm
      have e1 : (0 : Int) ≤ (low MProp.key x.l s : Int) := by omega
      have e2 : (low MProp.key x.l s : Int) < (x.l.length : Int) := by omega
      have e3 : List.set (x.l.map fun y => [CV.p (.str y.key), .p (.int .i64 y.val.kind), .p (.int .i64 y.val.num), .p (.str y.val.text)]) (low MProp.key x.l s) [CV.p (.str y.key), .p (.int .i64 v.kind), .p (.int .i64 v.num), .p (.str v.text)] =
          (x.l.set (low MProp.key x.l s) ⟨s, v⟩).map fun y => [CV.p (.str y.key), .p (.int .i64 y.val.kind), .p (.int .i64 y.val.num), .p (.str y.val.text)] := by rw [List.map_set, hk]
      have e4 : List.take x.l.length (List.map (fun y : MProp => [CV.p (.str y.key), .p (.int .i64 y.val.kind), .p (.int .i64 y.val.num), .p (.str y.val.text)]) (x.l.set (low MProp.key x.l s) ⟨s, v⟩)) = List.map (fun y : MProp => [CV.p (.str y.key), .p (.int .i64 y.val.kind), .p (.int .i64 y.val.num), .p (.str y.val.text)]) (x.l.set (low MProp.key x.l s) ⟨s, v⟩) := List.take_of_length_le (by simp)
      simp -implicitDefEqProofs only [go_sem, reduceIte, Nat.reduceEqDiff, idxAA, hst, e1, e2, and_self, rowOf, storeA, List.getElem?_map, hy, setSeg, List.drop_zero, List.cons_append, List.nil_append, List.append_nil, e3, List.length_set, e4, List.drop_succ_cons, List.drop_nil]
      simp -implicitDefEqProofs only [go_sem, reduceIte, Nat.reduceEqDiff, setR, hn, hv, hm]
      rfl
    | false =>
      have hle := low_le (key := MProp.key) x.l s
      by_cases h8 : (8 : Int) ≤ (x.l.length : Int)
      · simp -implicitDefEqProofs only [go_sem, reduceIte, Nat.reduceEqDiff, lenA_sl, h8]
        simp -implicitDefEqProofs only [go_sem, reduceIte, Nat.reduceEqDiff, setR, hn, hv, hm, h8]
        rfl
      · simp -implicitDefEqProofs only [go_sem, reduceIte, Nat.reduceEqDiff, lenA_sl, h8, fillA, setSeg, litA, List.drop_zero, List.cons_append, List.nil_append, List.append_nil, List.drop_succ_cons, List.drop_nil, List.set_cons_zero]
        refine .of (ins_prop (xl := x.l) (a := ⟨s, v⟩) rfl rfl (show (2 : Nat) ≠ 1 by decide) hle (by omega) ?_)
        simp -implicitDefEqProofs only [go_sem, reduceIte, Nat.reduceEqDiff]
        simp -implicitDefEqProofs only [go_sem, reduceIte, Nat.reduceEqDiff, setR, hn, hv, hm, h8]
        rfl
  cases hn : isName s with
  | false =>
    simp -implicitDefEqProofs only [go_sem, reduceIte, Nat.reduceEqDiff, s_elem_Set]
    refine CALL_of (nameCheck_ok s) ?_
    simp -implicitDefEqProofs only [go_sem, reduceIte, Nat.reduceEqDiff, setR, hn]
    rfl
  | true =>
    cases hv : isVal v with
    | true => exact hgo hn hv
    | false =>
      simp -implicitDefEqProofs only [go_sem, reduceIte, Nat.reduceEqDiff, s_elem_Set]
      refine CALL_of (nameCheck_ok s) ?_
      simp -implicitDefEqProofs only [go_sem, reduceIte, Nat.reduceEqDiff, setR, hn]
      refine CALL_of (valueCheck_ok v) ?_
      simp -implicitDefEqProofs only [go_sem, reduceIte, Nat.reduceEqDiff, setR, hn, hv]
      rfl
end Go.Ab
end PSp9

section PSp10
/- Contracts, part 10: slices that grow in a loop; the reference's rows of names. -/
set_option linter.unusedVariables false
set_option linter.unusedSimpArgs false
namespace Go.Ab
open Go.Proofs

/-- A slice that grew from nil, one by one: its row; the slice that stands for it; what it is when frozen. -/
def rowB {α : Type} (es : Nat) (enc : α → List PV) (acc : List α) : Blk := .row acc.length es (if acc.isEmpty then .nil else .own) (acc.map fun y => (enc y).map .p)
abbrev refB (l : Nat) {α : Type} (acc : List α) : AV := .c (.ref l acc.length 0 acc.length)
def accS {α : Type} (acc : List α) : Sl α := ⟨if acc.isEmpty then none else some false, acc, fun h => by cases acc <;> simp_all⟩
theorem accS_l {α : Type} (l : List α) : (accS l).l = l := rfl
theorem appendA_acc {α : Type} {es bytes l al : Nat} {enc : α → List PV} {acc : List α} {H : Heap} (a : α) (hb : (acc.length + 1) * bytes ≤ 140737488355328) (hl : H l = some (rowB es enc acc)) :
    appendA es bytes (.c (.ref l acc.length 0 acc.length)) (.c (.p (.sl es true [enc a]))) al H = some (.set (refB l (acc ++ [a])) l (rowB es enc (acc ++ [a]))) := by
  have hg : ∀ st : Own, grown st [(enc a).map CV.p] = .own := fun st => by simp [grown]
  simp [appendA, content, hl, rowB, hb, hg]
theorem frzC_acc {α : Type} {es l : Nat} {enc : α → List PV} {acc : List α} {H : List (Nat × Blk)} (hl : hget H l = some (rowB es enc acc)) : frzC (.ref l acc.length 0 acc.length) H = some ((accS acc).pv es enc, hdel H l) := by
  unfold frzC
  simp only [hl, rowB]
  rw [if_pos (by simp), take_map_len, toPss_map]
  cases acc <;> rfl
theorem fin_acc {α : Type} {es l : Nat} {enc : α → List PV} (acc : List α) (H : List (Nat × Blk)) : FRZ ((accS acc).av es enc) (refB l acc) ((l, rowB es enc acc) :: H) := by
  rw [FRZ_c, frzC_acc (es := es) (enc := enc) (by simp [hget])]
theorem idsB_rowB {α : Type} (nx es : Nat) (enc : α → List PV) (acc : List α) : idsB nx (rowB es enc acc) = true := by simp [idsB, rowB, idsC]
theorem rowB_nil {α : Type} (es : Nat) (enc : α → List PV) : Blk.row 0 es .nil [] = rowB es enc ([] : List α) := rfl
theorem keepH_cons (nx l : Nat) (b : Blk) (H : List (Nat × Blk)) : keepH nx ((l, b) :: H) = if l < nx then (l, b) :: keepH nx H else keepH nx H := by
  unfold keepH; rw [List.filter_cons]; by_cases h : l < nx <;> simp [h]
theorem keepH_nil (nx : Nat) : keepH nx [] = [] := rfl
theorem idsB_nil (nx v es : Nat) (st : Own) : idsB nx (.row v es st []) = true := rfl
/-- Parts of a slice of values. -/
def Sl.takeS {α : Type} (x : Sl α) (j : Nat) : Sl α := ⟨x.k.map fun f => f && decide (j = x.l.length), x.l.take j, by
  intro h
  cases hk : x.k with
  | none => rw [x.ok hk, List.take_nil]
  | some f => rw [hk] at h; cases h⟩
def Sl.dropS {α : Type} (x : Sl α) (j : Nat) : Sl α := ⟨x.k, x.l.drop j, fun h => by rw [x.ok h, List.drop_nil]⟩
theorem takeS_l {α : Type} (x : Sl α) (j : Nat) : (x.takeS j).l = x.l.take j := rfl
theorem dropS_l {α : Type} (x : Sl α) (j : Nat) : (x.dropS j).l = x.l.drop j := rfl
theorem sliceA_hi {α : Type} (x : Sl α) (es : Nat) (enc : α → List PV) (H : Heap) (k : IntKind) (j : Nat) (hj : j ≤ x.l.length) : sliceA es (x.av es enc) none (some (vI k j)) none H = some ((x.takeS j).av es enc) := by
  obtain ⟨k', l, ok⟩ := x
  cases k' with
  | none =>
    obtain rfl := ok rfl
    obtain rfl : j = 0 := by simpa using hj
    rfl
  | some f =>
    have hj : j ≤ l.length := hj
    show sliceA es (.c (.p (.sl es f (l.map enc)))) none (some (vI k j)) none H = some (.c (.p (.sl es (f && decide (j = l.length)) ((l.take j).map enc))))
    simp [sliceA, natA, hj, List.map_take]
theorem sliceA_lo {α : Type} (x : Sl α) (es : Nat) (enc : α → List PV) (H : Heap) (k : IntKind) (j : Nat) (hj : j ≤ x.l.length) : sliceA es (x.av es enc) (some (vI k j)) none none H = some ((x.dropS j).av es enc) := by
  obtain ⟨k', l, ok⟩ := x
  cases k' with
  | none =>
    obtain rfl := ok rfl
    obtain rfl : j = 0 := by simpa using hj
    rfl
  | some f =>
    have hj : j ≤ l.length := hj
    have : (l.map enc).take l.length = l.map enc := List.take_of_length_le (by simp)
    show sliceA es (.c (.p (.sl es f (l.map enc)))) (some (vI k j)) none none H = some (.c (.p (.sl es f ((l.drop j).map enc))))
    simp [sliceA, natA, hj, List.map_drop, this]
theorem content_sl {α : Type} (x : Sl α) (es : Nat) (enc : α → List PV) (H : Heap) : content es (x.av es enc) H = some (x.l.map fun y => (enc y).map .p) := by
  obtain ⟨k', l, ok⟩ := x
  cases k' with
  | none => obtain rfl := ok rfl; rfl
  | some f =>
    show content es (.c (.p (.sl es f (l.map enc)))) H = _
    simp [content]
/-- append(append(append([]T, ..), ..), ..): onto an empty one; onto a row that is full. -/
theorem append_emp {es bytes al : Nat} {y : AV} {ys : List (List CV)} {H : Heap} (hc : content es y H = some ys) (hb : ys.length * bytes ≤ 140737488355328) : appendA es bytes (.c (.p (.sl es true []))) y al H = some (.new (.c (.ref al 0 0 ys.length)) (.row 0 es (grown .emp ys) ys)) := by
  simp [appendA, hc, hb]
theorem append_full {α : Type} (f : α → List CV) {es bytes al l ver : Nat} {st : Own} (xl yl : List α) {y : AV} {H : Heap} (hc : content es y H = some (yl.map f)) (hb : (xl.length + yl.length) * bytes ≤ 140737488355328) (hl : H l = some (.row ver es st (xl.map f))) :
    appendA es bytes (.c (.ref l ver 0 xl.length)) y al H = some (.set (.c (.ref l (ver + 1) 0 (xl ++ yl).length)) l (.row (ver + 1) es (grown st (yl.map f)) ((xl ++ yl).map f))) := by
  simp [appendA, hc, hl, hb]
theorem grown_own (ys : List (List CV)) : grown .own ys = .own := by cases ys <;> rfl
theorem grown_one {α : Type} (st : Own) (f : α → List CV) (a : α) : grown st ([a].map f) = .own := rfl
theorem grown_one' (st : Own) (a : List CV) : grown st [a] = .own := rfl
attribute [go_sem] grown_own grown_one grown_one'
theorem content_lit (es : Nat) (e : List PV) (H : Heap) : content es (.c (.p (.sl es true [e]))) H = some [e.map .p] := by simp [content]
attribute [go_sem] takeS_l dropS_l List.set_cons_zero
attribute [go_sem] idsB_nil accS_l idsB_rowB keepH_cons keepH_nil Nat.reduceLT litA toPss toPs Option.bind_some cellsA

theorem refIn_ok (x : Sl Str) (hl : (x.l.length : Int) ≤ 4611686018427387903) (s : Str) : PCalls Try.prog n_pleachref05_In [x.av 1 encS, vS s] (vB (met id x.l s)) := by
  refine p_pleachref05_In (Nat.le_of_ble_eq_true rfl) rfl rfl ?_
  simp -implicitDefEqProofs only [go_sem, reduceIte, Nat.reduceEqDiff, s_pleachref05_In]
  refine loop_up x.l.length 0 (fun i => [(0, x.av 1 encS), (1, vS s), (5, vI .i64 i)]) (fun i => met id x.l s = met id (x.l.drop i) s) (by omega) (by simp -implicitDefEqProofs only [go_sem, reduceIte, Nat.reduceEqDiff]; rfl) rfl rfl ?_
  intro i hi hI
  simp -implicitDefEqProofs only [go_sem, reduceIte, Nat.reduceEqDiff, b_pleachref05_In_0]
  refine condW_split (fun h => ?_) (fun h => ?_)
  · have hlt : i < x.l.length := by simpa using h
    obtain ⟨y, hy⟩ : ∃ y, x.l[i]? = some y := ⟨_, List.getElem?_eq_getElem hlt⟩
    have hw : IntKind.i64.wrap ((i : Int) + 1) = ((i + 1 : Nat) : Int) := by rw [wrap_i64 (by omega) (by omega)]; rfl
    rw [drop_cons hy] at hI
    simp only [met, List.any_cons, id] at hI
    simp -implicitDefEqProofs only [go_sem, reduceIte, Nat.reduceEqDiff, hy]
    refine condW_split (fun h => ?_) (fun h => ?_)
    · simp only [h, Bool.true_or] at hI
      simp -implicitDefEqProofs only [go_sem, reduceIte, Nat.reduceEqDiff]
      simp only [met, id]; rw [hI]
    · simp only [h, Bool.false_or] at hI
      simp -implicitDefEqProofs only [go_sem, reduceIte, Nat.reduceEqDiff, hw]
      exact ⟨hlt, hI⟩
  · have hlt : ¬ i < x.l.length := by simpa using h
    simp -implicitDefEqProofs only [go_sem, reduceIte, Nat.reduceEqDiff]
    rw [hI, List.drop_eq_nil_of_le (by omega)]; rfl
theorem refLess_ok (x : Sl Str) (hl : (x.l.length : Int) ≤ 4611686018427387903) (s : Str) : PCalls Try.prog n_pleachref05_Less [x.av 1 encS, vS s] (vI .i64 (low id x.l s)) := by
  refine p_pleachref05_Less (Nat.le_of_ble_eq_true rfl) rfl rfl ?_
  simp -implicitDefEqProofs only [go_sem, reduceIte, Nat.reduceEqDiff, s_pleachref05_Less]
  refine loop_up x.l.length 0 (fun i => [(0, x.av 1 encS), (1, vS s), (5, vI .i64 (low id (x.l.take i) s)), (6, vI .i64 i)]) (fun i => True) (by omega) (by simp -implicitDefEqProofs only [go_sem, reduceIte, Nat.reduceEqDiff]; rfl) rfl trivial ?_
  intro i hi _
  simp -implicitDefEqProofs only [go_sem, reduceIte, Nat.reduceEqDiff, b_pleachref05_Less_0]
  refine condW_split (fun h => ?_) (fun h => ?_)
  · have hlt : i < x.l.length := by simpa using h
    obtain ⟨y, hy⟩ : ∃ y, x.l[i]? = some y := ⟨_, List.getElem?_eq_getElem hlt⟩
    have hw : IntKind.i64.wrap ((i : Int) + 1) = ((i + 1 : Nat) : Int) := by rw [wrap_i64 (by omega) (by omega)]; rfl
    have hle := low_le (key := id) (x.l.take i) s
    rw [List.length_take] at hle
    have hw2 : IntKind.i64.wrap ((low id (x.l.take i) s : Int) + 1) = ((low id (x.l.take i) s + 1 : Nat) : Int) := by rw [wrap_i64 (by omega) (by omega)]; rfl
    have hst : low id (x.l.take (i + 1)) s = low id (x.l.take i) s + if lt y s then 1 else 0 := by
      rw [low, low, List.take_add_one, hy]
      simp [List.countP_append, List.countP_cons]
    simp -implicitDefEqProofs only [go_sem, reduceIte, Nat.reduceEqDiff, hy]
    refine condW_split (fun h => ?_) (fun h => ?_)
    · simp -implicitDefEqProofs only [go_sem, reduceIte, Nat.reduceEqDiff, hw, hw2]
      rw [hst, if_pos h]
      exact ⟨hlt, rfl⟩
    · simp -implicitDefEqProofs only [go_sem, reduceIte, Nat.reduceEqDiff, hw]
      rw [hst, if_neg (by rw [lt, h]; decide)]
      exact ⟨hlt, rfl⟩
  · have hlt : ¬ i < x.l.length := by simpa using h
    simp -implicitDefEqProofs only [go_sem, reduceIte, Nat.reduceEqDiff]
    rw [List.take_of_length_le (by omega)]
theorem refWith_ok (x : Sl Str) (hl : x.l.length ≤ 1000000000000) (s : Str) (hm : met id x.l s = false) : PCalls Try.prog n_pleachref05_With [x.av 1 encS, vS s] ((Sl.mk' (insAt x.l (low id x.l s) s)).av 1 encS) := by
  refine p_pleachref05_With (Nat.le_of_ble_eq_true rfl) rfl rfl ?_
  simp -implicitDefEqProofs only [go_sem, reduceIte, Nat.reduceEqDiff, s_pleachref05_With]
  refine CALL_of (refIn_ok x (by omega) s) ?_
  simp -implicitDefEqProofs only [go_sem, reduceIte, Nat.reduceEqDiff, hm]
  refine CALL_of (refLess_ok x (by omega) s) ?_
  have hle := low_le (key := id) x.l s
  have b1 : ((x.takeS (low id x.l s)).l.map fun y => (encS y).map CV.p).length * 16 ≤ 140737488355328 := by simp [takeS_l]; omega
  have b2 : ((x.l.take (low id x.l s)).length + [s].length) * 16 ≤ 140737488355328 := by simp; omega
  have b3 : ((x.l.take (low id x.l s) ++ [s]).length + (x.l.drop (low id x.l s)).length) * 16 ≤ 140737488355328 := by simp; omega
  simp -implicitDefEqProofs only [go_sem, reduceIte, Nat.reduceEqDiff, sliceA_hi x _ _ _ _ _ hle, sliceA_lo x _ _ _ _ _ hle, append_emp (content_sl (x.takeS (low id x.l s)) 1 encS _) b1, append_full (st := grown .emp ((x.l.take (low id x.l s)).map fun y => [CV.p (.str y)])) (fun y => [CV.p (.str y)]) (x.l.take (low id x.l s)) [s] (content_lit 1 [.str s] _) b2,
    append_full (st := .own) (fun y => [CV.p (.str y)]) (x.l.take (low id x.l s) ++ [s]) (x.l.drop (low id x.l s)) (content_sl (x.dropS (low id x.l s)) 1 encS _) b3]
  rw [List.append_assoc]; rfl
theorem refOnly_ok (x y : Sl Str) (hl : x.l.length ≤ 1000000000000) (hl' : y.l.length ≤ 1000000000000) : PCalls Try.prog n_pleachref05_Only [x.av 1 encS, y.av 1 encS] ((accS (x.l.filter fun a => !met id y.l a)).av 1 encS) := by
  refine p_pleachref05_Only (Nat.le_of_ble_eq_true rfl) rfl rfl ?_
  simp -implicitDefEqProofs only [go_sem, reduceIte, Nat.reduceEqDiff, s_pleachref05_Only]
  refine loop_row (fun i => [(0, x.av 1 encS), (1, y.av 1 encS), (5, refB 0 ((x.l.take i).filter fun a => !met id y.l a)), (6, vI .i64 i)]) (fun i => [(0, rowB 1 encS ((x.l.take i).filter fun a => !met id y.l a))]) (fun i => x.l.length - i) (fun i => i ≤ x.l.length) 0 ?_ (by omega) ?_
  · simp -implicitDefEqProofs only [go_sem, reduceIte, Nat.reduceEqDiff, KEEP]; rfl
  intro i hi
  simp -implicitDefEqProofs only [go_sem, reduceIte, Nat.reduceEqDiff, b_pleachref05_Only_0]
  refine condW_split (fun h => ?_) (fun h => ?_)
  · have hlt : i < x.l.length := by simpa using h
    obtain ⟨z, hz⟩ : ∃ z, x.l[i]? = some z := ⟨_, List.getElem?_eq_getElem hlt⟩
    have hw : IntKind.i64.wrap ((i : Int) + 1) = ((i + 1 : Nat) : Int) := by rw [wrap_i64 (by omega) (by omega)]; rfl
    have hle : ((x.l.take i).filter fun a => !met id y.l a).length ≤ x.l.length := Nat.le_trans (List.length_filter_le _ _) (by simp; omega)
    simp -implicitDefEqProofs only [go_sem, reduceIte, Nat.reduceEqDiff, hz]
    refine CALL_of (refIn_ok y (by omega) z) ?_
    cases hc : met id y.l z with
    | true =>
      have hst : ((x.l.take (i + 1)).filter fun a => !met id y.l a) = (x.l.take i).filter fun a => !met id y.l a := by rw [List.take_add_one, hz]; simp [hc]
      simp -implicitDefEqProofs only [go_sem, reduceIte, Nat.reduceEqDiff, hw, KEEP]
      exact ⟨i + 1, by omega, by omega, by simp only [hst]⟩
    | false =>
      have hst : ((x.l.take (i + 1)).filter fun a => !met id y.l a) = ((x.l.take i).filter fun a => !met id y.l a) ++ [z] := by rw [List.take_add_one, hz]; simp [hc]
      simp -implicitDefEqProofs only [go_sem, reduceIte, Nat.reduceEqDiff, hw, hz, KEEP, appendA_acc (enc := encS) z (show (((x.l.take i).filter fun a => !met id y.l a).length + 1) * 16 ≤ 140737488355328 by omega)]
      exact ⟨i + 1, by omega, by omega, by simp only [hst]⟩
  · have hlt : i = x.l.length := by have : ¬ i < x.l.length := by simpa using h
                                    omega
    subst hlt
    rw [List.take_length]
    simp -implicitDefEqProofs only [go_sem, reduceIte, Nat.reduceEqDiff, ↓frzC_acc (es := 1) (enc := encS)]
    try rfl
end Go.Ab
end PSp10

section PSp11
/- Contracts, part 11: the reference's labels and properties that come and go. -/
set_option linter.unusedVariables false
set_option linter.unusedSimpArgs false
namespace Go.Ab
open Go.Proofs

section
variable {α : Type} {key : α → Str}
theorem split_low {l : List α} (h : Rises key l) (s : Str) : (∀ a ∈ l.take (low key l s), lt (key a) s = true) ∧ ∀ a ∈ l.drop (low key l s), lt (key a) s = false := by
  obtain ⟨h1, h2⟩ := low_spec h s
  refine ⟨fun a ha => ?_, fun a ha => ?_⟩
  · obtain ⟨k, hk⟩ := List.getElem?_of_mem ha
    rw [List.getElem?_take] at hk
    split at hk
    · exact h1 k a (by assumption) hk
    · cases hk
  · obtain ⟨k, hk⟩ := List.getElem?_of_mem ha
    rw [List.getElem?_drop] at hk
    exact h2 _ a (by omega) hk
theorem filter_lt {l : List α} (h : Rises key l) (s : Str) : l.filter (fun a => lt (key a) s) = l.take (low key l s) := by
  obtain ⟨h1, h2⟩ := split_low h s
  conv => lhs; rw [← List.take_append_drop (low key l s) l]
  rw [List.filter_append, List.filter_eq_self.2 h1, List.filter_eq_nil_iff.2 (fun a ha => by rw [h2 a ha]; decide), List.append_nil]
theorem split_met {l : List α} (h : Rises key l) {s : Str} (hm : met key l s = true) : ∃ y, l[low key l s]? = some y ∧ key y = s ∧ l.drop (low key l s) = y :: l.drop (low key l s + 1) ∧ ∀ a ∈ l.drop (low key l s + 1), lt s (key a) = true := by
  rw [met_low h] at hm
  split at hm
  · rename_i y hy
    have hy2 : key y = s := by simpa using hm
    refine ⟨y, hy, hy2, drop_cons hy, fun a ha => ?_⟩
    obtain ⟨k, hk⟩ := List.getElem?_of_mem ha
    rw [List.getElem?_drop] at hk
    have := h.get (by omega : low key l s < low key l s + 1 + k) hy hk
    rwa [hy2] at this
  · cases hm
theorem split_not {l : List α} (h : Rises key l) {s : Str} (hm : met key l s = false) : ∀ a ∈ l.drop (low key l s), lt s (key a) = true := by
  obtain ⟨h1, h2⟩ := split_low h s
  intro a ha
  have hne : key a ≠ s := fun e => by
    have : met key l s = true := by simp only [met, List.any_eq_true, decide_eq_true_eq]; exact ⟨a, List.mem_of_mem_drop ha, e⟩
    rw [hm] at this; cases this
  have q := le_eq (key a) s
  rw [h2 a ha] at q
  simp only [Bool.false_or, hne, decide_false, Bool.false_eq, Bool.not_eq_false'] at q
  exact q
theorem filter_gt_met {l : List α} (h : Rises key l) {s : Str} (hm : met key l s = true) : l.filter (fun a => lt s (key a)) = l.drop (low key l s + 1) := by
  obtain ⟨h1, h2⟩ := split_low h s
  obtain ⟨y, hy, hy2, hd, h3⟩ := split_met h hm
  conv => lhs; rw [← List.take_append_drop (low key l s) l]
  rw [List.filter_append, List.filter_eq_nil_iff.2 (fun a ha => by rw [lt_asymm' (h1 a ha)]; decide), List.nil_append, hd, List.filter_cons, if_neg (by rw [hy2, lt_irrefl']; decide), List.filter_eq_self.2 h3]
theorem filter_gt_not {l : List α} (h : Rises key l) {s : Str} (hm : met key l s = false) : l.filter (fun a => lt s (key a)) = l.drop (low key l s) := by
  obtain ⟨h1, h2⟩ := split_low h s
  conv => lhs; rw [← List.take_append_drop (low key l s) l]
  rw [List.filter_append, List.filter_eq_nil_iff.2 (fun a ha => by rw [lt_asymm' (h1 a ha)]; decide), List.nil_append, List.filter_eq_self.2 (split_not h hm)]
theorem ne_of_lt' {a b : Str} (h : lt a b = true) : a ≠ b := fun e => by subst e; rw [lt_irrefl'] at h; cases h
theorem filter_ne_met {l : List α} (h : Rises key l) {s : Str} (hm : met key l s = true) : l.filter (fun a => !decide (key a = s)) = delAt l (low key l s) := by
  obtain ⟨h1, h2⟩ := split_low h s
  obtain ⟨y, hy, hy2, hd, h3⟩ := split_met h hm
  conv => lhs; rw [← List.take_append_drop (low key l s) l]
  rw [List.filter_append, List.filter_eq_self.2 (fun a ha => by simp [ne_of_lt' (h1 a ha)]), hd, List.filter_cons, if_neg (by simp [hy2]), List.filter_eq_self.2 (fun a ha => by simp [(ne_of_lt' (h3 a ha)).symm])]
  rfl
end

theorem refAt_ok (x : Sl MProp) (hx : Rises MProp.key x.l) (hl : x.l.length ≤ 1000000000000) (s : Str) : PCalls Try.prog n_pleachref25_at [x.av 4 encP, vS s] (vI .i64 (if met MProp.key x.l s then (low MProp.key x.l s : Int) else -1)) := by
  refine p_pleachref25_at (Nat.le_of_ble_eq_true rfl) rfl rfl ?_
  simp -implicitDefEqProofs only [go_sem, reduceIte, Nat.reduceEqDiff, s_pleachref25_at]
  refine loop_up x.l.length 0 (fun i => [(0, x.av 4 encP), (1, vS s), (5, vI .i64 i)]) (fun i => ∀ (k : Nat) (a : MProp), k < i → x.l[k]? = some a → a.key ≠ s) (by omega) (by simp -implicitDefEqProofs only [go_sem, reduceIte, Nat.reduceEqDiff]; rfl) rfl (fun k a h => by omega) ?_
  intro i hi hI
  simp -implicitDefEqProofs only [go_sem, reduceIte, Nat.reduceEqDiff, b_pleachref25_at_0]
  refine condW_split (fun h => ?_) (fun h => ?_)
  · have hlt : i < x.l.length := by simpa using h
    obtain ⟨y, hy⟩ : ∃ y, x.l[i]? = some y := ⟨_, List.getElem?_eq_getElem hlt⟩
    have hw : IntKind.i64.wrap ((i : Int) + 1) = ((i + 1 : Nat) : Int) := by rw [wrap_i64 (by omega) (by omega)]; rfl
    simp -implicitDefEqProofs only [go_sem, reduceIte, Nat.reduceEqDiff, hy]
    refine condW_split (fun hc => ?_) (fun hc => ?_)
    · have hk : y.key = s := of_decide_eq_true hc
      have hlow : low MProp.key x.l s = i := low_of (Nat.le_of_lt hlt) (fun k a hk1 ha => by have := hx.get hk1 ha hy; rwa [hk] at this) (fun k a hk1 ha => by
        rcases Nat.lt_or_ge i k with q | q
        · exact lt_asymm' (by have := hx.get q hy ha; rwa [hk] at this)
        · obtain rfl : k = i := by omega
          rw [hy] at ha; injection ha with ha; rw [← ha, hk, lt_irrefl'])
      have hmet : met MProp.key x.l s = true := by rw [met_low hx, hlow, hy]; simpa using hk
      rw [hlow, hmet]
      simp -implicitDefEqProofs only [go_sem, reduceIte, Nat.reduceEqDiff]
    · simp -implicitDefEqProofs only [go_sem, reduceIte, Nat.reduceEqDiff, hw]
      refine ⟨hlt, fun k a hk ha => ?_⟩
      rcases Nat.lt_or_ge k i with q | q
      · exact hI k a q ha
      · obtain rfl : k = i := by omega
        rw [hy] at ha; injection ha with ha; rw [← ha]; exact of_decide_eq_false hc
  · have hlt : ¬ i < x.l.length := by simpa using h
    have hmet : met MProp.key x.l s = false := by
      rw [Bool.eq_false_iff]
      simp only [met, Ne, List.any_eq_true, decide_eq_true_eq]
      rintro ⟨a, ha, e⟩
      obtain ⟨k, hk⟩ := List.getElem?_of_mem ha
      exact hI k a (by have := (List.getElem?_eq_some_iff.1 hk).1; omega) hk e
    rw [hmet]
    simp -implicitDefEqProofs only [go_sem, reduceIte, Nat.reduceEqDiff]

theorem refLabel_ok (x : Sl Str) (hlen : x.l.length ≤ 1000000000000) (s : Str) (hs : (s.length : Int) ≤ 9223372036854775807) :
    PCalls Try.prog n_pleachref25_Label [x.av 1 encS, vS s] (.tup [(labelR x s).1.av 1 encS, vI .i64 (labelR x s).2]) := by
  refine p_pleachref25_Label (Nat.le_of_ble_eq_true rfl) rfl rfl ?_
  by_cases h8 : (8 : Int) ≤ (x.l.length : Int) <;> cases hn : isName s <;> cases hm : met id x.l s <;> repeat' (first | simp -implicitDefEqProofs only [go_sem, reduceIte, Nat.reduceEqDiff, s_pleachref25_Label, hn, hm, labelR, *] | refine CALL_of (refIs_ok s hs) ?_ | refine CALL_of (refIn_ok x (by omega) s) ?_ | refine CALL_of (refWith_ok x hlen s hm) ?_ | refine GRD_true (fun _ => ?_) (fun _ => ?_) | refine GRDD_true (fun _ => ?_) (fun _ => ?_) | refine condW_split (fun _ => ?_) (fun _ => ?_))
  all_goals rfl
theorem refUnlabel_ok (x : Sl Str) (hlen : x.l.length ≤ 1000000000000) (s : Str) :
    PCalls Try.prog n_pleachref25_Unlabel [x.av 1 encS, vS s] (.tup [(if met id x.l s then accS (x.l.filter fun a => !met id [s] a) else Sl.none).av 1 encS, vI .i64 (if met id x.l s then 0 else 9)]) := by
  refine p_pleachref25_Unlabel (Nat.le_of_ble_eq_true rfl) rfl rfl ?_
  cases hm : met id x.l s <;> repeat' (first | simp -implicitDefEqProofs only [go_sem, reduceIte, Nat.reduceEqDiff, s_pleachref25_Unlabel, hm, *] | refine CALL_of (refIn_ok x (by omega) s) ?_ | refine CALL_of (refOnly_ok x ⟨some true, [s], fun h => by cases h⟩ hlen (by simp)) ?_ | refine GRD_true (fun _ => ?_) (fun _ => ?_) | refine GRDD_true (fun _ => ?_) (fun _ => ?_) | refine condW_split (fun _ => ?_) (fun _ => ?_))
  all_goals rfl
end Go.Ab
end PSp11

section PSp12
/- Contracts, part 12: the reference's properties that come and go. -/
set_option linter.unusedVariables false
set_option linter.unusedSimpArgs false
namespace Go.Ab
open Go.Proofs

def pre (l : List MProp) (s : Str) : List MProp := l.filter fun a => lt a.key s
def post (l : List MProp) (s : Str) : List MProp := l.filter fun a => lt s a.key
theorem pre_add {l : List MProp} {i : Nat} {z : MProp} {s : Str} (hz : l[i]? = some z) : pre (l.take (i + 1)) s = if lt z.key s then pre (l.take i) s ++ [z] else pre (l.take i) s := by
  rw [List.take_add_one, hz]
  unfold pre
  rw [List.filter_append]
  cases h : lt z.key s <;> simp [h]
theorem post_add {l : List MProp} {i : Nat} {z : MProp} {s : Str} (hz : l[i]? = some z) : post (l.take (i + 1)) s = if lt s z.key then post (l.take i) s ++ [z] else post (l.take i) s := by
  rw [List.take_add_one, hz]
  unfold post
  rw [List.filter_append]
  cases h : lt s z.key <;> simp [h]
theorem pre_len (l : List MProp) (s : Str) : (pre l s).length ≤ l.length := List.length_filter_le _ _
theorem post_len (l : List MProp) (s : Str) : (post l s).length ≤ l.length := List.length_filter_le _ _
theorem accS_ne {α : Type} {l : List α} (h : l ≠ []) : accS l = Sl.mk' l := by cases l <;> first | exact absurd rfl h | rfl
theorem refSet_ok (x : Sl MProp) (hx : Rises MProp.key x.l) (hlen : x.l.length ≤ 1000000000000) (s : Str) (hs : (s.length : Int) ≤ 9223372036854775807) (v : MVal) :
    PCalls Try.prog n_pleachref25_Set [x.av 4 encP, vS s, aggP v.ps] (.tup [(setR x s v).1.av 4 encP, vI .i64 (setR x s v).2]) := by
  refine p_pleachref25_Set (Nat.le_of_ble_eq_true rfl) rfl rfl ?_
  by_cases hg : isName s = true ∧ isVal v = true ∧ (met MProp.key x.l s = true ∨ ¬ (8 : Int) ≤ (x.l.length : Int))
  · obtain ⟨hn, hv, hg⟩ := hg
    have hres : setR x s v = (.mk' (pre x.l s ++ [⟨s, v⟩] ++ post x.l s), 0) := by
      unfold setR
      rw [hn, hv, pre, post, filter_lt hx]
      cases hm : met MProp.key x.l s with
      | true =>
        obtain ⟨y, hy, hy2, hd, h3⟩ := split_met hx hm
        have hlt := low_met_lt hx hm
        rw [filter_gt_met hx hm]
        simp only [Bool.and_self, if_true, List.set_eq_take_append_cons_drop, if_pos hlt, List.append_assoc, List.singleton_append]
      | false =>
        rw [filter_gt_not hx hm]
        rw [hm] at hg
        simp only [Bool.false_eq_true, false_or] at hg
        simp only [Bool.and_self, if_true, Bool.false_eq_true, if_false, hg, insAt, List.append_assoc, List.singleton_append]
    rw [hres]
    have h1 : ∀ i, (pre (x.l.take i) s).length ≤ x.l.length := fun i => Nat.le_trans (List.length_filter_le _ _) (by simp; omega)
    have h2 : ∀ i, (post (x.l.take i) s).length ≤ x.l.length := fun i => Nat.le_trans (List.length_filter_le _ _) (by simp; omega)
    have hgo : W Try.prog s_pleachref25_Set (RETK r_pleachref25_Set fun a H _ => FRZ (.tup [(Sl.mk' (pre x.l s ++ [⟨s, v⟩] ++ post x.l s)).av 4 encP, vI .i64 0]) a H) ⟨argE 0 [x.av 4 encP, vS s, aggP v.ps], [], 0⟩ := by
      simp -implicitDefEqProofs only [go_sem, reduceIte, Nat.reduceEqDiff, s_pleachref25_Set]
      refine CALL_of (refIs_ok s hs) ?_
      simp -implicitDefEqProofs only [go_sem, reduceIte, Nat.reduceEqDiff, hn]
      refine CALL_of (refValIs_ok v) ?_
      simp -implicitDefEqProofs only [go_sem, reduceIte, Nat.reduceEqDiff, hv]
      refine CALL_of (refAt_ok x hx hlen s) ?_
      have hneg : ¬ ((low MProp.key x.l s : Int) < 0) := by omega
      have key : ∀ (e : List (Nat × AV)) (Q : Ex → St → Prop), keepE [0, 1, 5, 8, 9] e = [(0, x.av 4 encP), (1, vS s), (5, .c (.p (.ptr v.ps))), (8, .c (.ref 0 0 0 0)), (9, vI .i64 0)] →
          (∀ i, i = x.l.length → Q (.exit 0) ⟨(31, vB false) :: (30, vI .i64 x.l.length) :: (29, x.av 4 encP) :: (28, vI .i64 x.l.length) :: [(0, x.av 4 encP), (1, vS s), (5, .c (.p (.ptr v.ps))), (8, refB 0 (pre x.l s)), (9, vI .i64 x.l.length)], [(0, rowB 4 encP (pre x.l s))], 1⟩) →
          W Try.prog (.loop [0, 1, 5, 8, 9] b_pleachref25_Set_0) Q ⟨e, [(0, .row 0 4 .nil [])], 1⟩ := by
        intro e Q he hQ
        refine loop_row (fun i => [(0, x.av 4 encP), (1, vS s), (5, .c (.p (.ptr v.ps))), (8, refB 0 (pre (x.l.take i) s)), (9, vI .i64 i)]) (fun i => [(0, rowB 4 encP (pre (x.l.take i) s))]) (fun i => x.l.length - i) (fun i => i ≤ x.l.length) 0 ?_ (by omega) ?_
        · unfold KEEP
          simp only [he]
          simp -implicitDefEqProofs only [go_sem, reduceIte, Nat.reduceEqDiff]
          rfl
        intro i hi
        simp -implicitDefEqProofs only [go_sem, reduceIte, Nat.reduceEqDiff, b_pleachref25_Set_0]
        refine condW_split (fun h => ?_) (fun h => ?_)
        · have hlt : i < x.l.length := by simpa using h
          obtain ⟨z, hz⟩ : ∃ z, x.l[i]? = some z := ⟨_, List.getElem?_eq_getElem hlt⟩
          have hw : IntKind.i64.wrap ((i : Int) + 1) = ((i + 1 : Nat) : Int) := by rw [wrap_i64 (by omega) (by omega)]; rfl
          simp -implicitDefEqProofs only [go_sem, reduceIte, Nat.reduceEqDiff, hz]
          refine condW_split (fun hc => ?_) (fun hc => ?_)
          · have hst : (pre (x.l.take (i + 1)) s) = (pre (x.l.take i) s) ++ [z] := by rw [List.take_add_one, hz]; simp [pre, hc]
            have hb := h1 i
            simp -implicitDefEqProofs only [go_sem, reduceIte, Nat.reduceEqDiff, hw, hz, KEEP, appendA_acc (enc := encP) z (show ((pre (x.l.take i) s).length + 1) * 48 ≤ 140737488355328 by omega)]
            exact ⟨i + 1, by omega, by omega, by simp only [hst]⟩
          · have hst : (pre (x.l.take (i + 1)) s) = pre (x.l.take i) s := by rw [List.take_add_one, hz]; simp [pre, hc]
            simp -implicitDefEqProofs only [go_sem, reduceIte, Nat.reduceEqDiff, hw, KEEP]
            exact ⟨i + 1, by omega, by omega, by simp only [hst]⟩
        · have hlt : i = x.l.length := by have : ¬ i < x.l.length := by simpa using h
                                          omega
          subst hlt
          rw [h]
          simp -implicitDefEqProofs only [go_sem, reduceIte, Nat.reduceEqDiff]
          rw [List.take_length]
          exact hQ _ rfl
      obtain ⟨A, hA⟩ : ∃ A : List MProp, A = pre x.l s ++ [⟨s, v⟩] := ⟨_, rfl⟩
      have hAl : A.length ≤ x.l.length + 1 := by have := pre_len x.l s; rw [hA, List.length_append]; simp only [List.length_cons, List.length_nil]; omega
      have key2 : ∀ (e : List (Nat × AV)) (Q : Ex → St → Prop), keepE [0, 1, 8, 10] e = [(0, x.av 4 encP), (1, vS s), (8, refB 0 A), (10, vI .i64 0)] →
          (Q (.exit 2) ⟨(57, vB false) :: (56, vI .i64 x.l.length) :: (55, x.av 4 encP) :: (54, vI .i64 x.l.length) :: [(0, x.av 4 encP), (1, vS s), (8, refB 0 (A ++ post x.l s)), (10, vI .i64 x.l.length)], [(0, rowB 4 encP (A ++ post x.l s))], 1⟩) →
          W Try.prog (.loop [0, 1, 8, 10] b_pleachref25_Set_2) Q ⟨e, [(0, rowB 4 encP A)], 1⟩ := by
        intro e Q he hQ
        have hp0 : A ++ post (x.l.take 0) s = A := by simp [post]
        refine loop_row (fun i => [(0, x.av 4 encP), (1, vS s), (8, refB 0 (A ++ post (x.l.take i) s)), (10, vI .i64 i)]) (fun i => [(0, rowB 4 encP (A ++ post (x.l.take i) s))]) (fun i => x.l.length - i) (fun i => i ≤ x.l.length) 0 ?_ (by omega) ?_
        · unfold KEEP
          simp only [he, hp0]
          simp -implicitDefEqProofs only [go_sem, reduceIte, Nat.reduceEqDiff]
          rfl
        intro i hi
        simp -implicitDefEqProofs only [go_sem, reduceIte, Nat.reduceEqDiff, b_pleachref25_Set_2]
        refine condW_split (fun h => ?_) (fun h => ?_)
        · have hlt : i < x.l.length := by simpa using h
          obtain ⟨z, hz⟩ : ∃ z, x.l[i]? = some z := ⟨_, List.getElem?_eq_getElem hlt⟩
          have hw : IntKind.i64.wrap ((i : Int) + 1) = ((i + 1 : Nat) : Int) := by rw [wrap_i64 (by omega) (by omega)]; rfl
          simp -implicitDefEqProofs only [go_sem, reduceIte, Nat.reduceEqDiff, hz, le_eq, Bool.not_not]
          refine condW_split (fun hc => ?_) (fun hc => ?_)
          · have hst : A ++ post (x.l.take (i + 1)) s = (A ++ post (x.l.take i) s) ++ [z] := by rw [le_eq, Bool.not_not] at hc; rw [post_add hz, if_pos hc, List.append_assoc]
            have hb := h2 i
            have hb2 : ((A ++ post (x.l.take i) s).length + 1) * 48 ≤ 140737488355328 := by rw [List.length_append]; omega
            simp -implicitDefEqProofs only [go_sem, reduceIte, Nat.reduceEqDiff, hw, hz, KEEP, appendA_acc (enc := encP) z hb2]
            exact ⟨i + 1, by omega, by omega, by simp only [hst]⟩
          · have hst : A ++ post (x.l.take (i + 1)) s = A ++ post (x.l.take i) s := by rw [le_eq, Bool.not_not] at hc; rw [post_add hz, if_neg (by rw [hc]; decide)]
            simp -implicitDefEqProofs only [go_sem, reduceIte, Nat.reduceEqDiff, hw, KEEP]
            exact ⟨i + 1, by omega, by omega, by simp only [hst]⟩
        · have hlt : i = x.l.length := by have : ¬ i < x.l.length := by simpa using h
                                          omega
          subst hlt
          rw [h]
          simp -implicitDefEqProofs only [go_sem, reduceIte, Nat.reduceEqDiff]
          rw [List.take_length]
          exact hQ
      have hb1 : ((pre x.l s).length + 1) * 48 ≤ 140737488355328 := by have := pre_len x.l s; omega
      subst hA
      cases hm : met MProp.key x.l s with
      | true =>
        simp -implicitDefEqProofs only [go_sem, reduceIte, Nat.reduceEqDiff, hneg, ↓reduceIte]
        refine key _ _ ?_ (fun i hi => ?_)
        · simp -implicitDefEqProofs only [go_sem, reduceIte, Nat.reduceEqDiff]
        simp -implicitDefEqProofs only [go_sem, reduceIte, Nat.reduceEqDiff, Nat.reduceLeDiff, fillA, setSeg, List.drop_zero, List.cons_append, List.nil_append, List.append_nil, List.drop_succ_cons, List.drop_nil, appendA_acc (enc := encP) (⟨s, v⟩ : MProp) hb1]
        refine key2 _ _ ?_ ?_
        · simp -implicitDefEqProofs only [go_sem, reduceIte, Nat.reduceEqDiff]
        simp -implicitDefEqProofs only [go_sem, reduceIte, Nat.reduceEqDiff, ↓frzC_acc (es := 4) (enc := encP)]
        rw [accS_ne (by simp)]
      | false =>
        have hg8 : ¬ (8 : Int) ≤ (x.l.length : Int) := by rw [hm] at hg; simpa using hg
        simp -implicitDefEqProofs only [go_sem, reduceIte, Nat.reduceEqDiff, ↓reduceIte, hg8, lenA_sl]
        refine key _ _ ?_ (fun i hi => ?_)
        · simp -implicitDefEqProofs only [go_sem, reduceIte, Nat.reduceEqDiff]
        simp -implicitDefEqProofs only [go_sem, reduceIte, Nat.reduceEqDiff, Nat.reduceLeDiff, fillA, setSeg, List.drop_zero, List.cons_append, List.nil_append, List.append_nil, List.drop_succ_cons, List.drop_nil, appendA_acc (enc := encP) (⟨s, v⟩ : MProp) hb1]
        refine key2 _ _ ?_ ?_
        · simp -implicitDefEqProofs only [go_sem, reduceIte, Nat.reduceEqDiff]
        simp -implicitDefEqProofs only [go_sem, reduceIte, Nat.reduceEqDiff, ↓frzC_acc (es := 4) (enc := encP)]
        rw [accS_ne (by simp)]
    exact hgo
  · simp -implicitDefEqProofs only [go_sem, reduceIte, Nat.reduceEqDiff, s_pleachref25_Set]
    refine CALL_of (refIs_ok s hs) ?_
    unfold setR
    cases hn : isName s with
    | false => simp -implicitDefEqProofs only [go_sem, reduceIte, Nat.reduceEqDiff]; rfl
    | true =>
      simp -implicitDefEqProofs only [go_sem, reduceIte, Nat.reduceEqDiff]
      refine CALL_of (refValIs_ok v) ?_
      cases hv : isVal v with
      | false => simp -implicitDefEqProofs only [go_sem, reduceIte, Nat.reduceEqDiff]; rfl
      | true =>
        have hm : met MProp.key x.l s = false := by cases hm : met MProp.key x.l s <;> simp_all
        have h8 : (8 : Int) ≤ (x.l.length : Int) := Decidable.byContradiction fun h => hg ⟨hn, hv, .inr h⟩
        simp -implicitDefEqProofs only [go_sem, reduceIte, Nat.reduceEqDiff]
        refine CALL_of (refAt_ok x hx hlen s) ?_
        simp -implicitDefEqProofs only [go_sem, reduceIte, Nat.reduceEqDiff, hm, h8, lenA_sl]
        rfl
/-- A slice that was made by appends to an empty one. -/
def Sl.made {α : Type} (l : List α) : Sl α := ⟨some l.isEmpty, l, fun h => by cases h⟩
/-- What is left, in the reference's own make. -/
def unsetR' (x : Sl MProp) (s : Str) : Sl MProp × Int := if met MProp.key x.l s then (.made (delAt x.l (low MProp.key x.l s)), 0) else (.none, 9)
theorem refUnset_ok (x : Sl MProp) (hx : Rises MProp.key x.l) (hlen : x.l.length ≤ 1000000000000) (s : Str) :
    PCalls Try.prog n_pleachref25_Unset [x.av 4 encP, vS s] (.tup [(unsetR' x s).1.av 4 encP, vI .i64 (unsetR' x s).2]) := by
  refine p_pleachref25_Unset (Nat.le_of_ble_eq_true rfl) rfl rfl ?_
  unfold unsetR'
  simp -implicitDefEqProofs only [go_sem, reduceIte, Nat.reduceEqDiff, s_pleachref25_Unset]
  refine CALL_of (refAt_ok x hx hlen s) ?_
  cases hm : met MProp.key x.l s with
  | false => simp -implicitDefEqProofs only [go_sem, reduceIte, Nat.reduceEqDiff]; rfl
  | true =>
    have hlt := low_met_lt hx hm
    have hle := low_le (key := MProp.key) x.l s
    have hneg : ¬ ((low MProp.key x.l s : Int) < 0) := by omega
    have hw : IntKind.i64.wrap ((low MProp.key x.l s : Int) + 1) = ((low MProp.key x.l s + 1 : Nat) : Int) := by rw [wrap_i64 (by omega) (by omega)]; rfl
    have b1 : ((x.takeS (low MProp.key x.l s)).l.map fun y => (encP y).map CV.p).length * 48 ≤ 140737488355328 := by simp [takeS_l]; omega
    have b3 : ((x.l.take (low MProp.key x.l s)).length + (x.l.drop (low MProp.key x.l s + 1)).length) * 48 ≤ 140737488355328 := by simp; omega
    simp -implicitDefEqProofs only [go_sem, reduceIte, Nat.reduceEqDiff, hneg, hw, sliceA_hi x _ _ _ _ _ hle, sliceA_lo x _ _ _ _ (low MProp.key x.l s + 1) hlt, append_emp (content_sl (x.takeS (low MProp.key x.l s)) 4 encP _) b1,
      append_full (st := grown .emp ((x.l.take (low MProp.key x.l s)).map fun y => [CV.p (.str y.key), .p (.int .i64 y.val.kind), .p (.int .i64 y.val.num), .p (.str y.val.text)])) (fun y => [CV.p (.str y.key), .p (.int .i64 y.val.kind), .p (.int .i64 y.val.num), .p (.str y.val.text)]) (x.l.take (low MProp.key x.l s)) (x.l.drop (low MProp.key x.l s + 1)) (content_sl (x.dropS (low MProp.key x.l s + 1)) 4 encP _) b3]
    unfold delAt
    generalize x.l.take (low MProp.key x.l s) = A
    generalize x.l.drop (low MProp.key x.l s + 1) = B
    cases A <;> cases B <;> rfl
end Go.Ab
end PSp12

section PSp13
/- Contracts, part 13: may an op be; what it does to labels and properties. -/
set_option linter.unusedVariables false
set_option linter.unusedSimpArgs false
namespace Go.Ab
open Go.Proofs
theorem ite02 (b : Bool) : decide ((if b = true then (0 : Int) else 2) = 0) = b := by cases b <;> rfl
attribute [go_sem] ite02 Nat.reduceLeDiff Int.reduceLE List.drop_nil List.drop_zero

theorem kinds (k : Int) : (k < 1 ∨ 12 < k) ∨ k = 1 ∨ k = 2 ∨ k = 3 ∨ k = 4 ∨ k = 5 ∨ k = 6 ∨ k = 7 ∨ k = 8 ∨ k = 9 ∨ k = 10 ∨ k = 11 ∨ k = 12 := by omega
def rightO (o : MOp) : Bool := isName o.id && (if o.kind = 3 then isName o.src && isName o.dst else if o.kind = 9 ∨ o.kind = 11 then isName o.key && isVal o.val else if 5 ≤ o.kind ∧ o.kind ≤ 12 then isName o.key else decide (1 ≤ o.kind ∧ o.kind ≤ 4))
def ofEdge (k : Int) : Bool := decide (k = 7) || decide (k = 8) || decide (k = 11) || decide (k = 12)

theorem ofEdge_ok (k : Int) : PCalls Try.prog n_graph_OfEdge [vI .i64 k] (vB (ofEdge k)) := by
  refine p_graph_OfEdge (Nat.le_of_ble_eq_true rfl) rfl rfl ?_
  repeat' (first | simp -implicitDefEqProofs only [go_sem, reduceIte, Nat.reduceEqDiff, s_graph_OfEdge, *] | refine GRD_true (fun _ => ?_) (fun _ => ?_) | refine GRDD_true (fun _ => ?_) (fun _ => ?_) | refine condW_split (fun _ => ?_) (fun _ => ?_))
  all_goals simp [ofEdge, *]
theorem slNone_av {α : Type} (es : Nat) (enc : α → List PV) : (Sl.none : Sl α).av es enc = .c (.p .nil) := rfl
theorem setNil_ok (s : Str) (v : MVal) : PCalls Try.prog n_elem_Set [.c (.p .nil), vS s, .agg [.p (.int .i64 v.kind), .p (.int .i64 v.num), .p (.str v.text)]] (.tup [(setR .none s v).1.av 4 encP, vI .i64 (if isName s && isVal v then 0 else 2)]) := by
  have h := elemSet_ok .none (by simp [Rises, Sl.none]) (by simp [Sl.none]) s v
  have e : (setR .none s v).2 = if isName s && isVal v then 0 else 2 := by
    unfold setR
    cases isName s && isVal v <;> simp [met, Sl.none]
  rw [e] at h
  exact h
theorem graphRight_ok (o : MOp) : PCalls Try.prog n_graph_Right [aggP (encO o)] (vI .i64 (if rightO o then 0 else 2)) := by
  refine p_graph_Right (Nat.le_of_ble_eq_true rfl) rfl rfl ?_
  obtain ⟨kind, id, src, dst, key, val⟩ := o
  cases hi : isName id with
  | false => 
    have : rightO ⟨kind, id, src, dst, key, val⟩ = false := by simp [rightO, hi]
    repeat' (first | simp -implicitDefEqProofs only [go_sem, reduceIte, Nat.reduceEqDiff, s_graph_Right, encO, *] | refine CALL_of (nameCheck_ok _) ?_ | refine GRD_true (fun _ => ?_) (fun _ => ?_) | refine GRDD_true (fun _ => ?_) (fun _ => ?_) | refine condW_split (fun _ => ?_) (fun _ => ?_))
  | true =>
    rcases kinds kind with h | rfl | rfl | rfl | rfl | rfl | rfl | rfl | rfl | rfl | rfl | rfl | rfl
    · have h1 : rightO ⟨kind, id, src, dst, key, val⟩ = false := by
        simp only [rightO, Bool.and_eq_false_iff]
        right
        rw [if_neg (by omega), if_neg (by omega), if_neg (by omega)]
        exact decide_eq_false (by omega)
      have g1 : ¬ kind = 1 := by omega
      have g2 : ¬ kind = 2 := by omega
      have g3 : ¬ kind = 3 := by omega
      have g4 : ¬ kind = 4 := by omega
      have g5 : ¬ kind = 5 := by omega
      have g6 : ¬ kind = 6 := by omega
      have g7 : ¬ kind = 7 := by omega
      have g8 : ¬ kind = 8 := by omega
      have g9 : ¬ kind = 9 := by omega
      have g10 : ¬ kind = 10 := by omega
      have g11 : ¬ kind = 11 := by omega
      have g12 : ¬ kind = 12 := by omega
      clear h
      repeat' (first | simp -implicitDefEqProofs only [go_sem, reduceIte, Nat.reduceEqDiff, s_graph_Right, encO, *] | refine CALL_of (nameCheck_ok _) ?_ | refine GRD_true (fun _ => ?_) (fun _ => ?_) | refine GRDD_true (fun _ => ?_) (fun _ => ?_) | refine condW_split (fun _ => ?_) (fun _ => ?_))
    all_goals
      (repeat' (first | simp -implicitDefEqProofs only [go_sem, reduceIte, Nat.reduceEqDiff, s_graph_Right, encO, rightO, hi, false_or, or_false, or_self, and_self, and_false, false_and, Bool.true_and, Bool.and_true, Bool.and_false, *] | refine CALL_of (nameCheck_ok _) ?_ | refine CALL_of (setNil_ok _ _) ?_ | refine GRD_true (fun _ => ?_) (fun _ => ?_) | refine GRDD_true (fun _ => ?_) (fun _ => ?_) | refine condW_split (fun _ => ?_) (fun _ => ?_)))
    all_goals simp_all
    all_goals (rename_i h; rcases h with h | h <;> simp_all)
theorem refRight_ok (o : MOp) (h1 : o.id.length ≤ 9223372036854775807) (h2 : o.src.length ≤ 9223372036854775807) (h3 : o.dst.length ≤ 9223372036854775807) (h4 : o.key.length ≤ 9223372036854775807) : PCalls Try.prog n_pleachref26_Right [aggP (encO o)] (vB (rightO o)) := by
  refine p_pleachref26_Right (Nat.le_of_ble_eq_true rfl) rfl rfl ?_
  obtain ⟨kind, id, src, dst, key, val⟩ := o
  simp only at h1 h2 h3 h4
  have i1 := refIs_ok id (by omega)
  have i2 := refIs_ok src (by omega)
  have i3 := refIs_ok dst (by omega)
  have i4 := refIs_ok key (by omega)
  clear h1 h2 h3 h4
  cases hi : isName id with
  | false => 
    have : rightO ⟨kind, id, src, dst, key, val⟩ = false := by simp [rightO, hi]
    repeat' (first | simp -implicitDefEqProofs only [go_sem, reduceIte, Nat.reduceEqDiff, s_pleachref26_Right, encO, *] | refine CALL_of i1 ?_ | refine GRD_true (fun _ => ?_) (fun _ => ?_) | refine GRDD_true (fun _ => ?_) (fun _ => ?_) | refine condW_split (fun _ => ?_) (fun _ => ?_))
  | true =>
    rcases kinds kind with h | rfl | rfl | rfl | rfl | rfl | rfl | rfl | rfl | rfl | rfl | rfl | rfl
    · have q : rightO ⟨kind, id, src, dst, key, val⟩ = false := by
        simp only [rightO, Bool.and_eq_false_iff]
        right
        rw [if_neg (by omega), if_neg (by omega), if_neg (by omega)]
        exact decide_eq_false (by omega)
      rcases h with h | h
      · repeat' (first | simp -implicitDefEqProofs only [go_sem, reduceIte, Nat.reduceEqDiff, s_pleachref26_Right, encO, *] | refine CALL_of i1 ?_ | refine GRD_true (fun _ => ?_) (fun _ => ?_) | refine GRDD_true (fun _ => ?_) (fun _ => ?_) | refine condW_split (fun _ => ?_) (fun _ => ?_))
      · have g : ¬ kind < 1 := by omega
        repeat' (first | simp -implicitDefEqProofs only [go_sem, reduceIte, Nat.reduceEqDiff, s_pleachref26_Right, encO, *] | refine CALL_of i1 ?_ | refine GRD_true (fun _ => ?_) (fun _ => ?_) | refine GRDD_true (fun _ => ?_) (fun _ => ?_) | refine condW_split (fun _ => ?_) (fun _ => ?_))
    all_goals
      (repeat' (first | simp -implicitDefEqProofs only [go_sem, reduceIte, Nat.reduceEqDiff, s_pleachref26_Right, encO, rightO, hi, false_or, or_false, or_self, and_self, and_false, false_and, Bool.true_and, Bool.and_true, Bool.and_false, *] | refine CALL_of i1 ?_ | refine CALL_of i2 ?_ | refine CALL_of i3 ?_ | refine CALL_of i4 ?_ | refine CALL_of (refValIs_ok _) ?_ | refine GRD_true (fun _ => ?_) (fun _ => ?_) | refine GRDD_true (fun _ => ?_) (fun _ => ?_) | refine condW_split (fun _ => ?_) (fun _ => ?_)))
    all_goals simp_all

/-- What an op makes of labels and properties: the program's. -/
def turnR (l : Sl Str) (p : Sl MProp) (o : MOp) : Sl Str × Sl MProp × Int :=
  if o.kind = 5 ∨ o.kind = 7 then (if (labelR l o.key).2 = 0 then ((labelR l o.key).1.clone, p.clone, 0) else (.none, .none, (labelR l o.key).2))
  else if o.kind = 6 ∨ o.kind = 8 then (if (unlabelR l o.key).2 = 0 then ((unlabelR l o.key).1.clone, p.clone, 0) else (.none, .none, (unlabelR l o.key).2))
  else if o.kind = 9 ∨ o.kind = 11 then (if (setR p o.key o.val).2 = 0 then (l.clone, (setR p o.key o.val).1.clone, 0) else (.none, .none, (setR p o.key o.val).2))
  else if o.kind = 10 ∨ o.kind = 12 then (if (unsetR p o.key).2 = 0 then (l.clone, (unsetR p o.key).1.clone, 0) else (.none, .none, (unsetR p o.key).2))
  else (.none, .none, 2)
theorem labelR_len (l : Sl Str) (s : Str) : (labelR l s).1.l.length ≤ l.l.length + 1 := by
  unfold labelR
  split
  · split
    · simp [Sl.none]
    · split
      · simp [Sl.none]
      · simp [Sl.mk', ins_len]
  · simp [Sl.none]
theorem unlabelR_len (l : Sl Str) (s : Str) : (unlabelR l s).1.l.length ≤ l.l.length := by
  unfold unlabelR
  split
  · simp [Sl.mk', delAt]; omega
  · simp [Sl.none]
theorem setR_len (p : Sl MProp) (s : Str) (v : MVal) : (setR p s v).1.l.length ≤ p.l.length + 1 := by
  unfold setR
  split
  · split
    · simp [Sl.mk']
    · split
      · simp [Sl.none]
      · simp [Sl.mk', ins_len]
  · simp [Sl.none]
theorem unsetR_len (p : Sl MProp) (s : Str) : (unsetR p s).1.l.length ≤ p.l.length := by
  unfold unsetR
  split
  · simp [Sl.mk', delAt]; omega
  · simp [Sl.none]
theorem graphTurn_ok (l : Sl Str) (p : Sl MProp) (o : MOp) (hl : Rises id l.l) (hp : Rises MProp.key p.l) (hl1 : l.l.length ≤ 1000000000) (hp1 : p.l.length ≤ 1000000000) :
    PCalls Try.prog n_graph_Turn [l.av 1 encS, p.av 4 encP, aggP (encO o)] (.tup [(turnR l p o).1.av 1 encS, (turnR l p o).2.1.av 4 encP, vI .i64 (turnR l p o).2.2]) := by
  refine p_graph_Turn (Nat.le_of_ble_eq_true rfl) rfl rfl ?_
  obtain ⟨kind, id, src, dst, key, val⟩ := o
  have b1 := labelR_len l key
  have b2 := unlabelR_len l key
  have b3 := setR_len p key val
  have b4 := unsetR_len p key
  have c0 := clone_string_ok l (by omega)
  have c1 := clone_prop_ok p (by omega)
  have c2 := clone_string_ok (labelR l key).1 (by omega)
  have c3 := clone_string_ok (unlabelR l key).1 (by omega)
  have c4 := clone_prop_ok (setR p key val).1 (by omega)
  have c5 := clone_prop_ok (unsetR p key).1 (by omega)
  have d1 := elemLabel_ok l hl (by omega) key
  have d2 := elemUnlabel_ok l hl (by omega) key
  have d3 := elemSet_ok p hp (by omega) key val
  have d4 := elemUnset_ok p hp (by omega) key
  clear b1 b2 b3 b4 hl hp hl1 hp1
  rcases kinds kind with h | rfl | rfl | rfl | rfl | rfl | rfl | rfl | rfl | rfl | rfl | rfl | rfl
  · have q : turnR l p ⟨kind, id, src, dst, key, val⟩ = (.none, .none, 2) := by
      simp only [turnR]
      rw [if_neg (by omega), if_neg (by omega), if_neg (by omega), if_neg (by omega)]
    have g5 : ¬ kind = 5 := by omega
    have g6 : ¬ kind = 6 := by omega
    have g7 : ¬ kind = 7 := by omega
    have g8 : ¬ kind = 8 := by omega
    have g9 : ¬ kind = 9 := by omega
    have g10 : ¬ kind = 10 := by omega
    have g11 : ¬ kind = 11 := by omega
    have g12 : ¬ kind = 12 := by omega
    simp -implicitDefEqProofs only [go_sem, reduceIte, Nat.reduceEqDiff, s_graph_Turn, encO, q, g5, g6, g7, g8, g9, g10, g11, g12]
    rfl
  all_goals
    (repeat' (first | simp -implicitDefEqProofs only [go_sem, reduceIte, Nat.reduceEqDiff, s_graph_Turn, encO, turnR, false_or, or_false, or_self, *] | refine CALL_of c0 ?_ | refine CALL_of c1 ?_ | refine CALL_of c2 ?_ | refine CALL_of c3 ?_ | refine CALL_of c4 ?_ | refine CALL_of c5 ?_ | refine CALL_of d1 ?_ | refine CALL_of d2 ?_ | refine CALL_of d3 ?_ | refine CALL_of d4 ?_ | refine GRD_true (fun _ => ?_) (fun _ => ?_) | refine GRDD_true (fun _ => ?_) (fun _ => ?_) | refine condW_split (fun _ => ?_) (fun _ => ?_)))
  all_goals first
    | rfl
    | (rename_i h
       simp only [Bool.not_eq_true', Bool.not_eq_false', decide_eq_true_eq, decide_eq_false_iff_not] at h
       simp only [h, reduceIte]
       done)
    | (rename_i h
       simp only [Bool.not_eq_true', Bool.not_eq_false', decide_eq_true_eq, decide_eq_false_iff_not] at h
       simp only [h, reduceIte]
       rfl)

/-- The reference's. -/
def unlabelR' (x : Sl Str) (s : Str) : Sl Str × Int := (if met id x.l s then accS (x.l.filter fun a => !met id [s] a) else Sl.none, if met id x.l s then 0 else 9)
def turnR' (l : Sl Str) (p : Sl MProp) (o : MOp) : Sl Str × Sl MProp × Int :=
  if o.kind = 5 ∨ o.kind = 7 then (if (labelR l o.key).2 = 0 then ((labelR l o.key).1, p, 0) else (.none, .none, (labelR l o.key).2))
  else if o.kind = 6 ∨ o.kind = 8 then (if (unlabelR' l o.key).2 = 0 then ((unlabelR' l o.key).1, p, 0) else (.none, .none, (unlabelR' l o.key).2))
  else if o.kind = 9 ∨ o.kind = 11 then (if (setR p o.key o.val).2 = 0 then (l, (setR p o.key o.val).1, 0) else (.none, .none, (setR p o.key o.val).2))
  else if o.kind = 10 ∨ o.kind = 12 then (if (unsetR' p o.key).2 = 0 then (l, (unsetR' p o.key).1, 0) else (.none, .none, (unsetR' p o.key).2))
  else (.none, .none, 2)
theorem refTurn_ok (l : Sl Str) (p : Sl MProp) (o : MOp) (hp : Rises MProp.key p.l) (hl1 : l.l.length ≤ 1000000000) (hp1 : p.l.length ≤ 1000000000) (hk : o.key.length ≤ 9223372036854775807) :
    PCalls Try.prog n_pleachref26_Turn [l.av 1 encS, p.av 4 encP, aggP (encO o)] (.tup [(turnR' l p o).1.av 1 encS, (turnR' l p o).2.1.av 4 encP, vI .i64 (turnR' l p o).2.2]) := by
  refine p_pleachref26_Turn (Nat.le_of_ble_eq_true rfl) rfl rfl ?_
  obtain ⟨kind, id, src, dst, key, val⟩ := o
  simp only at hk
  have d1 := refLabel_ok l (by omega) key (by omega)
  have d2 : PCalls Try.prog n_pleachref25_Unlabel [l.av 1 encS, vS key] (.tup [(unlabelR' l key).1.av 1 encS, vI .i64 (unlabelR' l key).2]) := refUnlabel_ok l (by omega) key
  have d3 := refSet_ok p hp (by omega) key (by omega) val
  have d4 := refUnset_ok p hp (by omega) key
  clear hp hl1 hp1 hk
  rcases kinds kind with h | rfl | rfl | rfl | rfl | rfl | rfl | rfl | rfl | rfl | rfl | rfl | rfl
  · have q : turnR' l p ⟨kind, id, src, dst, key, val⟩ = (.none, .none, 2) := by
      simp only [turnR']
      rw [if_neg (by omega), if_neg (by omega), if_neg (by omega), if_neg (by omega)]
    have g5 : ¬ kind = 5 := by omega
    have g6 : ¬ kind = 6 := by omega
    have g7 : ¬ kind = 7 := by omega
    have g8 : ¬ kind = 8 := by omega
    have g9 : ¬ kind = 9 := by omega
    have g10 : ¬ kind = 10 := by omega
    have g11 : ¬ kind = 11 := by omega
    have g12 : ¬ kind = 12 := by omega
    simp -implicitDefEqProofs only [go_sem, reduceIte, Nat.reduceEqDiff, s_pleachref26_Turn, encO, q, g5, g6, g7, g8, g9, g10, g11, g12]
    rfl
  all_goals
    (repeat' (first | simp -implicitDefEqProofs only [go_sem, reduceIte, Nat.reduceEqDiff, s_pleachref26_Turn, encO, turnR', false_or, or_false, or_self, *] | refine CALL_of d1 ?_ | refine CALL_of d2 ?_ | refine CALL_of d3 ?_ | refine CALL_of d4 ?_ | refine GRD_true (fun _ => ?_) (fun _ => ?_) | refine GRDD_true (fun _ => ?_) (fun _ => ?_) | refine condW_split (fun _ => ?_) (fun _ => ?_)))
  all_goals first
    | rfl
    | (rename_i h
       simp only [Bool.not_eq_true', Bool.not_eq_false', decide_eq_true_eq, decide_eq_false_iff_not] at h
       simp only [h, reduceIte]
       done)
    | (rename_i h
       simp only [Bool.not_eq_true', Bool.not_eq_false', decide_eq_true_eq, decide_eq_false_iff_not] at h
       simp only [h, reduceIte]
       rfl)
/-- The two are the same. -/
theorem turn_same (l : Sl Str) (p : Sl MProp) (o : MOp) (hl : Rises id l.l) : (turnR l p o).2.2 = (turnR' l p o).2.2 ∧ (turnR l p o).1.l = (turnR' l p o).1.l ∧ (turnR l p o).2.1.l = (turnR' l p o).2.1.l := by
  have hu : (unlabelR l o.key).2 = (unlabelR' l o.key).2 ∧ (unlabelR l o.key).1.l = (unlabelR' l o.key).1.l := by
    unfold unlabelR unlabelR'
    cases hm : met id l.l o.key with
    | false => exact ⟨rfl, rfl⟩
    | true =>
      refine ⟨rfl, ?_⟩
      have := filter_ne_met hl hm
      simp only [if_true, Sl.mk', accS]
      rw [← this]
      congr 1
      funext a
      simp [met, eq_comm]
  have hs : (unsetR p o.key).2 = (unsetR' p o.key).2 ∧ (unsetR p o.key).1.l = (unsetR' p o.key).1.l := by
    unfold unsetR unsetR'
    split <;> exact ⟨rfl, rfl⟩
  have hc : ∀ {α : Type} (x : Sl α), x.clone.l = x.l := fun x => rfl
  unfold turnR turnR'
  rw [← hu.1, ← hs.1]
  split
  · split <;> exact ⟨rfl, rfl, rfl⟩
  · split
    · split
      · exact ⟨rfl, hu.2, rfl⟩
      · exact ⟨rfl, rfl, rfl⟩
    · split
      · split <;> exact ⟨rfl, rfl, rfl⟩
      · split
        · split
          · exact ⟨rfl, rfl, hs.2⟩
          · exact ⟨rfl, rfl, rfl⟩
        · exact ⟨rfl, rfl, rfl⟩
end Go.Ab
end PSp13

section PSp14
/- Contracts, part 14: is a graph, are ops, gone through: so few parts, of so few bytes? -/
set_option linter.unusedVariables false
set_option linter.unusedSimpArgs false
namespace Go.Ab
open Go.Proofs

structure FGraph where
  nodes : Sl FNode
  edges : Sl FEdge
abbrev encG (g : FGraph) : List PV := [g.nodes.pv 3 encN, g.edges.pv 5 encE]

/-- Sums over the first i of a list. -/
def sumT {α : Type} (f : α → Nat) (l : List α) (i : Nat) : Nat := ((l.take i).map f).sum
theorem sumT_zero {α : Type} (f : α → Nat) (l : List α) : sumT f l 0 = 0 := rfl
theorem sumT_succ {α : Type} {f : α → Nat} {l : List α} {i : Nat} {y : α} (h : l[i]? = some y) : sumT f l (i + 1) = sumT f l i + f y := by
  unfold sumT
  rw [List.take_add_one, h]
  simp
theorem sumT_le {α : Type} {f : α → Nat} {B : Nat} (hf : ∀ a, f a ≤ B) (l : List α) : ∀ i, sumT f l i ≤ i * B
  | 0 => by simp [sumT]
  | i + 1 => by
    have ih := sumT_le hf l i
    cases h : l[i]? with
    | none =>
      have : sumT f l (i + 1) = sumT f l i := by
        unfold sumT; rw [List.take_add_one, h]; simp
      rw [this, Nat.add_mul]; omega
    | some y => rw [sumT_succ h, Nat.add_mul]; have := hf y; omega
theorem sumT_all {α : Type} (f : α → Nat) (l : List α) : sumT f l l.length = (l.map f).sum := by simp [sumT]

def m5 (s : Str) : Nat := min s.length 5000
theorem m5_le (s : Str) : m5 s ≤ 5000 := Nat.min_le_right _ _
theorem mins_m5 (s : Str) : minsA false [vI .i64 (s.length : Nat), vI .i64 5000] = some (vI .i64 (m5 s : Nat)) := by
  unfold minsA minsI minsI m5
  simp only [Bool.false_eq_true, if_false]
  congr 4
  split <;> omega
theorem wadd {a b : Nat} (h : a + b ≤ 9000000000000000000) : IntKind.i64.wrap ((a : Int) + (b : Int)) = ((a + b : Nat) : Int) := by rw [wrap_i64 (by omega) (by omega)]; omega
theorem hdel_cons (k : Nat) (b : Blk) (H : List (Nat × Blk)) (l : Nat) : hdel ((k, b) :: H) l = if k = l then hdel H l else (k, b) :: hdel H l := by
  unfold hdel; rw [List.filter_cons]; by_cases h : k = l <;> simp [h]
theorem hdel_nil (l : Nat) : hdel [] l = [] := rfl
attribute [go_sem] mins_m5 hdel_cons hdel_nil
def propW (p : MProp) : Nat := m5 p.key + m5 p.val.text
def weightN (l : List Str) (p : List MProp) : Nat := if 20 < l.length ∨ 20 < p.length then 100000 else (l.map m5).sum + (p.map propW).sum
theorem sum_le {α : Type} {f : α → Nat} {B : Nat} (hf : ∀ a, f a ≤ B) (l : List α) : (l.map f).sum ≤ l.length * B := by rw [← sumT_all]; exact sumT_le hf l _
theorem weightN_le (l : List Str) (p : List MProp) : weightN l p ≤ 300000 := by
  unfold weightN
  split
  · omega
  · have h1 := sum_le m5_le l
    have h2 := sum_le (f := propW) (B := 10000) (fun p => by have := m5_le p.key; have := m5_le p.val.text; unfold propW; omega) p
    have h3 := Nat.mul_le_mul_right 5000 (show l.length ≤ 20 by omega)
    have h4 := Nat.mul_le_mul_right 10000 (show p.length ≤ 20 by omega)
    omega
theorem one_cast (i : Nat) : (i : Int) + 1 = (i : Int) + ((1 : Nat) : Int) := by omega
theorem weight_ok (x : Sl Str) (y : Sl MProp) : PCalls Try.prog n_pleachref26_weight [x.av 1 encS, y.av 4 encP] (vI .i64 (weightN x.l y.l : Nat)) := by
  refine p_pleachref26_weight (Nat.le_of_ble_eq_true rfl) rfl rfl ?_
  by_cases h1 : (20 : Int) < (x.l.length : Int)
  · have : weightN x.l y.l = 100000 := if_pos (by omega)
    rw [this]
    simp -implicitDefEqProofs only [go_sem, reduceIte, Nat.reduceEqDiff, s_pleachref26_weight, h1, lenA_sl]
    rfl
  by_cases h2 : (20 : Int) < (y.l.length : Int)
  · have : weightN x.l y.l = 100000 := if_pos (by omega)
    rw [this]
    simp -implicitDefEqProofs only [go_sem, reduceIte, Nat.reduceEqDiff, s_pleachref26_weight, h1, h2, lenA_sl]
    rfl
  have hW : weightN x.l y.l = sumT m5 x.l x.l.length + sumT propW y.l y.l.length := by rw [sumT_all, sumT_all]; exact if_neg (by omega)
  have hp : ∀ p : MProp, propW p ≤ 10000 := fun p => by have := m5_le p.key; have := m5_le p.val.text; unfold propW; omega
  rw [hW]
  simp -implicitDefEqProofs only [go_sem, reduceIte, Nat.reduceEqDiff, s_pleachref26_weight, h1, h2, lenA_sl]
  refine loop_up x.l.length 0 (fun i => [(0, x.av 1 encS), (1, y.av 4 encP), (5, vI .i64 (sumT m5 x.l i)), (6, vI .i64 i)]) (fun i => True) (by omega) (by simp -implicitDefEqProofs only [go_sem, reduceIte, Nat.reduceEqDiff]; rfl) rfl trivial ?_
  intro i hi _
  simp -implicitDefEqProofs only [go_sem, reduceIte, Nat.reduceEqDiff, b_pleachref26_weight_0]
  have hs := sumT_le m5_le x.l i
  have hs' := Nat.mul_le_mul_right 5000 hi
  refine condW_split (fun h => ?_) (fun h => ?_)
  · have hlt : i < x.l.length := by simpa using h
    obtain ⟨z, hz⟩ : ∃ z, x.l[i]? = some z := ⟨_, List.getElem?_eq_getElem hlt⟩
    have hm := m5_le z
    simp -implicitDefEqProofs only [go_sem, reduceIte, Nat.reduceEqDiff, hz, one_cast, wadd (show i + 1 ≤ 9000000000000000000 by omega), wadd (show sumT m5 x.l i + m5 z ≤ 9000000000000000000 by omega), sumT_succ hz]
    exact hlt
  · have hlt : i = x.l.length := by have : ¬ i < x.l.length := by simpa using h
                                    omega
    subst hlt
    rw [h]
    simp -implicitDefEqProofs only [go_sem, reduceIte, Nat.reduceEqDiff]
    refine loop_up y.l.length 0 (fun i => [(1, y.av 4 encP), (5, vI .i64 (sumT m5 x.l x.l.length + sumT propW y.l i : Nat)), (7, vI .i64 i)]) (fun i => True) (by omega) (by simp -implicitDefEqProofs only [go_sem, reduceIte, Nat.reduceEqDiff, sumT_zero, Nat.add_zero]; rfl) rfl trivial ?_
    intro i hi _
    simp -implicitDefEqProofs only [go_sem, reduceIte, Nat.reduceEqDiff, b_pleachref26_weight_2]
    have ht := sumT_le hp y.l i
    have ht' := Nat.mul_le_mul_right 10000 hi
    refine condW_split (fun h => ?_) (fun h => ?_)
    · have hlt : i < y.l.length := by simpa using h
      obtain ⟨z, hz⟩ : ∃ z, y.l[i]? = some z := ⟨_, List.getElem?_eq_getElem hlt⟩
      have hm := m5_le z.key
      have hm2 := m5_le z.val.text
      have e : sumT m5 x.l x.l.length + (sumT propW y.l i + propW z) = sumT m5 x.l x.l.length + sumT propW y.l i + m5 z.key + m5 z.val.text := by unfold propW; omega
      simp -implicitDefEqProofs only [go_sem, reduceIte, Nat.reduceEqDiff, hz, encP, one_cast, wadd (show i + 1 ≤ 9000000000000000000 by omega), wadd (show sumT m5 x.l x.l.length + sumT propW y.l i + m5 z.key ≤ 9000000000000000000 by omega), wadd (show sumT m5 x.l x.l.length + sumT propW y.l i + m5 z.key + m5 z.val.text ≤ 9000000000000000000 by omega), sumT_succ hz, e]
      exact hlt
    · have hlt : i = y.l.length := by have : ¬ i < y.l.length := by simpa using h
                                      omega
      subst hlt
      rw [h]
      simp -implicitDefEqProofs only [go_sem, reduceIte, Nat.reduceEqDiff]

def nodeW (n : FNode) : Nat := m5 n.id + weightN n.labels.l n.props.l
def edgeW (n : FEdge) : Nat := m5 n.id + m5 n.src + m5 n.dst + weightN n.labels.l n.props.l
def fewG (g : FGraph) : Bool := !decide ((40 : Int) < (g.nodes.l.length : Int)) && (!decide ((60 : Int) < (g.edges.l.length : Int)) && decide ((((g.nodes.l.map nodeW).sum + (g.edges.l.map edgeW).sum : Nat) : Int) ≤ 5000))
theorem few_ok (g : FGraph) : PCalls Try.prog n_pleachref26_Few [aggP (encG g)] (vB (fewG g)) := by
  refine p_pleachref26_Few (Nat.le_of_ble_eq_true rfl) rfl rfl ?_
  obtain ⟨x, y⟩ := g
  unfold fewG
  by_cases h1 : (40 : Int) < (x.l.length : Int)
  · simp -implicitDefEqProofs only [go_sem, reduceIte, Nat.reduceEqDiff, s_pleachref26_Few, encG, h1, lenA_sl]
  by_cases h2 : (60 : Int) < (y.l.length : Int)
  · simp -implicitDefEqProofs only [go_sem, reduceIte, Nat.reduceEqDiff, s_pleachref26_Few, encG, h1, h2, lenA_sl]
  have hN : ∀ n : FNode, nodeW n ≤ 305000 := fun n => by have := m5_le n.id; have := weightN_le n.labels.l n.props.l; unfold nodeW; omega
  have hE : ∀ n : FEdge, edgeW n ≤ 315000 := fun n => by have := m5_le n.id; have := m5_le n.src; have := m5_le n.dst; have := weightN_le n.labels.l n.props.l; unfold edgeW; omega
  rw [← sumT_all, ← sumT_all]
  simp -implicitDefEqProofs only [go_sem, reduceIte, Nat.reduceEqDiff, s_pleachref26_Few, encG, h1, h2, lenA_sl]
  refine loop_up x.l.length 0 (fun i => [(1, .c (.p (.ptr [x.pv 3 encN, y.pv 5 encE]))), (3, vI .i64 (sumT nodeW x.l i)), (4, vI .i64 i)]) (fun i => True) (by omega) (by simp -implicitDefEqProofs only [go_sem, reduceIte, Nat.reduceEqDiff]; rfl) rfl trivial ?_
  intro i hi _
  simp -implicitDefEqProofs only [go_sem, reduceIte, Nat.reduceEqDiff, b_pleachref26_Few_0]
  have hs := sumT_le hN x.l i
  have hs' := Nat.mul_le_mul_right 305000 hi
  refine condW_split (fun h => ?_) (fun h => ?_)
  · have hlt : i < x.l.length := by simpa using h
    obtain ⟨z, hz⟩ : ∃ z, x.l[i]? = some z := ⟨_, List.getElem?_eq_getElem hlt⟩
    have hm := m5_le z.id
    have hm2 := weightN_le z.labels.l z.props.l
    have e : sumT nodeW x.l i + nodeW z = sumT nodeW x.l i + m5 z.id + weightN z.labels.l z.props.l := by unfold nodeW; omega
    simp -implicitDefEqProofs only [go_sem, reduceIte, Nat.reduceEqDiff, hz, encN]
    refine CALLD_of (weight_ok z.labels z.props) ?_
    simp -implicitDefEqProofs only [go_sem, reduceIte, Nat.reduceEqDiff, one_cast, wadd (show i + 1 ≤ 9000000000000000000 by omega), wadd (show sumT nodeW x.l i + m5 z.id ≤ 9000000000000000000 by omega), wadd (show sumT nodeW x.l i + m5 z.id + weightN z.labels.l z.props.l ≤ 9000000000000000000 by omega), sumT_succ hz, e]
    exact hlt
  · have hlt : i = x.l.length := by have : ¬ i < x.l.length := by simpa using h
                                    omega
    subst hlt
    rw [h]
    simp -implicitDefEqProofs only [go_sem, reduceIte, Nat.reduceEqDiff]
    refine loop_up y.l.length 0 (fun i => [(1, .c (.p (.ptr [x.pv 3 encN, y.pv 5 encE]))), (3, vI .i64 (sumT nodeW x.l x.l.length + sumT edgeW y.l i : Nat)), (5, vI .i64 i)]) (fun i => True) (by omega) (by simp -implicitDefEqProofs only [go_sem, reduceIte, Nat.reduceEqDiff, sumT_zero, Nat.add_zero]; rfl) rfl trivial ?_
    intro i hi _
    simp -implicitDefEqProofs only [go_sem, reduceIte, Nat.reduceEqDiff, b_pleachref26_Few_2]
    have ht := sumT_le hE y.l i
    have ht' := Nat.mul_le_mul_right 315000 hi
    refine condW_split (fun h => ?_) (fun h => ?_)
    · have hlt : i < y.l.length := by simpa using h
      obtain ⟨z, hz⟩ : ∃ z, y.l[i]? = some z := ⟨_, List.getElem?_eq_getElem hlt⟩
      have hm := m5_le z.id
      have hm1 := m5_le z.src
      have hm2 := m5_le z.dst
      have hm3 := weightN_le z.labels.l z.props.l
      have e : sumT nodeW x.l x.l.length + (sumT edgeW y.l i + edgeW z) = sumT nodeW x.l x.l.length + sumT edgeW y.l i + m5 z.id + m5 z.src + m5 z.dst + weightN z.labels.l z.props.l := by unfold edgeW; omega
      simp -implicitDefEqProofs only [go_sem, reduceIte, Nat.reduceEqDiff, hz, encE, storeA, setSeg, List.drop_zero, List.cons_append, List.nil_append, List.append_nil, List.drop_succ_cons, List.drop_nil, ghK, doGh, and_self]
      refine CALLD_of (weight_ok z.labels z.props) ?_
      simp -implicitDefEqProofs only [go_sem, reduceIte, Nat.reduceEqDiff, one_cast, wadd (show i + 1 ≤ 9000000000000000000 by omega), wadd (show sumT nodeW x.l x.l.length + sumT edgeW y.l i + m5 z.id ≤ 9000000000000000000 by omega), wadd (show sumT nodeW x.l x.l.length + sumT edgeW y.l i + m5 z.id + m5 z.src ≤ 9000000000000000000 by omega), wadd (show sumT nodeW x.l x.l.length + sumT edgeW y.l i + m5 z.id + m5 z.src + m5 z.dst ≤ 9000000000000000000 by omega), wadd (show sumT nodeW x.l x.l.length + sumT edgeW y.l i + m5 z.id + m5 z.src + m5 z.dst + weightN z.labels.l z.props.l ≤ 9000000000000000000 by omega), sumT_succ hz, e]
      exact hlt
    · have hlt : i = y.l.length := by have : ¬ i < y.l.length := by simpa using h
                                      omega
      subst hlt
      rw [h]
      simp -implicitDefEqProofs only [go_sem, reduceIte, Nat.reduceEqDiff]

def opW (o : MOp) : Nat := m5 o.id + m5 o.src + m5 o.dst + m5 o.key + m5 o.val.text
def fewOps (l : List MOp) : Bool := decide ((l.length : Int) ≤ 70) && decide (((l.map opW).sum : Int) ≤ 5000)
theorem fewOps_ok (x : Sl MOp) : PCalls Try.prog n_pleachref26_FewOps [x.av 8 encO] (vB (fewOps x.l)) := by
  refine p_pleachref26_FewOps (Nat.le_of_ble_eq_true rfl) rfl rfl ?_
  have hO : ∀ o : MOp, opW o ≤ 25000 := fun o => by have := m5_le o.id; have := m5_le o.src; have := m5_le o.dst; have := m5_le o.key; have := m5_le o.val.text; unfold opW; omega
  unfold fewOps
  rw [← sumT_all]
  simp -implicitDefEqProofs only [go_sem, reduceIte, Nat.reduceEqDiff, s_pleachref26_FewOps]
  refine loop_gen (fun i => [(0, x.av 8 encO), (3, vI .i64 (sumT opW x.l i)), (4, vI .i64 i)]) (fun i => 100 - i) (fun i => i ≤ x.l.length ∧ i ≤ 71) 0 (by simp -implicitDefEqProofs only [go_sem, reduceIte, Nat.reduceEqDiff]; rfl) (fun a => rfl) (by omega) ?_
  rintro i ⟨hi, hi2⟩
  simp -implicitDefEqProofs only [go_sem, reduceIte, Nat.reduceEqDiff, b_pleachref26_FewOps_0]
  have hs := sumT_le hO x.l i
  have hs' := Nat.mul_le_mul_right 25000 hi2
  by_cases g1 : (i : Int) < (x.l.length : Int)
  · by_cases g2 : (i : Int) ≤ 70
    · have hlt : i < x.l.length := by omega
      obtain ⟨z, hz⟩ : ∃ z, x.l[i]? = some z := ⟨_, List.getElem?_eq_getElem hlt⟩
      have hm := m5_le z.id
      have hm1 := m5_le z.src
      have hm2 := m5_le z.dst
      have hm3 := m5_le z.key
      have hm4 := m5_le z.val.text
      have e : sumT opW x.l i + opW z = sumT opW x.l i + m5 z.id + m5 z.src + m5 z.dst + m5 z.key + m5 z.val.text := by unfold opW; omega
      simp -implicitDefEqProofs only [go_sem, reduceIte, Nat.reduceEqDiff, g1, g2, hz, encO, one_cast, wadd (show i + 1 ≤ 9000000000000000000 by omega), wadd (show sumT opW x.l i + m5 z.id ≤ 9000000000000000000 by omega), wadd (show sumT opW x.l i + m5 z.id + m5 z.src ≤ 9000000000000000000 by omega), wadd (show sumT opW x.l i + m5 z.id + m5 z.src + m5 z.dst ≤ 9000000000000000000 by omega), wadd (show sumT opW x.l i + m5 z.id + m5 z.src + m5 z.dst + m5 z.key ≤ 9000000000000000000 by omega), wadd (show sumT opW x.l i + m5 z.id + m5 z.src + m5 z.dst + m5 z.key + m5 z.val.text ≤ 9000000000000000000 by omega)]
      exact ⟨i + 1, ⟨by omega, by omega⟩, by omega, by rw [sumT_succ hz, e]⟩
    · have h70 : ¬ (x.l.length : Int) ≤ 70 := by omega
      simp -implicitDefEqProofs only [go_sem, reduceIte, Nat.reduceEqDiff, g1, g2, h70, lenA_sl]
  · have hlt : i = x.l.length := by omega
    subst hlt
    simp -implicitDefEqProofs only [go_sem, reduceIte, Nat.reduceEqDiff, g1, lenA_sl]
    cases h70 : decide ((x.l.length : Int) ≤ 70) <;> simp -implicitDefEqProofs only [go_sem, reduceIte, Nat.reduceEqDiff]
end Go.Ab
end PSp14

section PSp15
/- Contracts, part 15: what is wrong with a graph: the reference's answer. -/
set_option linter.unusedVariables false
set_option linter.unusedSimpArgs false
namespace Go.Ab
open Go.Proofs

def szS (s : Str) : Prop := s.length ≤ 9223372036854775807
def szP (p : MProp) : Prop := szS p.key ∧ szS p.val.text
def szR (l : List Str) (p : List MProp) : Prop := l.length ≤ 1000000000000000 ∧ p.length ≤ 1000000000000000 ∧ (∀ s ∈ l, szS s) ∧ ∀ q ∈ p, szP q
def szN (n : FNode) : Prop := szS n.id ∧ szR n.labels.l n.props.l
def szE (n : FEdge) : Prop := szS n.id ∧ szS n.src ∧ szS n.dst ∧ szR n.labels.l n.props.l
def szG (g : FGraph) : Prop := g.nodes.l.length ≤ 1000000000000000 ∧ g.edges.l.length ≤ 1000000000000000 ∧ (∀ n ∈ g.nodes.l, szN n) ∧ ∀ n ∈ g.edges.l, szE n
theorem szS.int {s : Str} (h : szS s) : (s.length : Int) ≤ 9223372036854775807 := by unfold szS at h; omega

def ordK {α : Type} (key : α → Str) (p : Option α) (x : α) : Bool :=
  match p with
  | none => false
  | some p => !lt (key p) (key x)
def propsE : Option MProp → List MProp → Int
  | _, [] => 0
  | p, x :: r => if isName x.key && isVal x.val then (if ordK MProp.key p x then 4 else propsE (some x) r) else 2
def propsN (l : List MProp) : Int := if (8 : Int) < (l.length : Int) then 5 else propsE none l
def restN (l : List Str) (p : List MProp) : Int := if (8 : Int) < (l.length : Int) then 5 else if rowE none l = 0 then propsN p else rowE none l
def nodeE (n : FNode) : Int := if isName n.id then restN n.labels.l n.props.l else 2
def edgeE (n : FEdge) : Int := if isName n.id && (isName n.src && isName n.dst) then restN n.labels.l n.props.l else 2
def nodesE : Option FNode → List FNode → Int
  | _, [] => 0
  | p, x :: r => if nodeE x = 0 then (if ordK FNode.id p x then 4 else nodesE (some x) r) else nodeE x
def hasN (l : List FNode) (s : Str) : Bool := met FNode.id l s
def edgesE (ns : List FNode) : Option FEdge → List FEdge → Int
  | _, [] => 0
  | p, x :: r => if edgeE x = 0 then (if ordK FEdge.id p x then 4 else if hasN ns x.src && hasN ns x.dst then edgesE ns (some x) r else 9) else edgeE x
def wrongG (g : FGraph) : Int :=
  if (500 : Int) < (g.nodes.l.length : Int) then 5 else if (1000 : Int) < (g.edges.l.length : Int) then 5 else if nodesE none g.nodes.l = 0 then edgesE g.nodes.l none g.edges.l else nodesE none g.nodes.l

theorem refProps_ok (x : Sl MProp) (hl : x.l.length ≤ 1000000000000000) (hs : ∀ s ∈ x.l, szP s) : PCalls Try.prog n_pleachref25_Props [x.av 4 encP] (vI .i64 (propsN x.l)) := by
  refine p_pleachref25_Props (Nat.le_of_ble_eq_true rfl) rfl rfl ?_
  unfold propsN
  by_cases h8 : (8 : Int) < (x.l.length : Int)
  · simp -implicitDefEqProofs only [go_sem, reduceIte, Nat.reduceEqDiff, s_pleachref25_Props, h8, lenA_sl]
  simp -implicitDefEqProofs only [go_sem, reduceIte, Nat.reduceEqDiff, s_pleachref25_Props, h8, lenA_sl]
  refine loop_up x.l.length 0 (fun i => [(0, x.av 4 encP), (3, vI .i64 i)]) (fun i => propsE none x.l = propsE (prevOf x.l i) (x.l.drop i)) (by omega) (by simp -implicitDefEqProofs only [go_sem, reduceIte, Nat.reduceEqDiff]; rfl) rfl (by simp [prevOf]) ?_
  intro i hi hI
  simp -implicitDefEqProofs only [go_sem, reduceIte, Nat.reduceEqDiff, b_pleachref25_Props_0]
  refine condW_split (fun h => ?_) (fun h => ?_)
  · have hlt : i < x.l.length := by simpa using h
    obtain ⟨y, hy⟩ : ∃ y, x.l[i]? = some y := ⟨_, List.getElem?_eq_getElem hlt⟩
    have hw : IntKind.i64.wrap ((i : Int) + 1) = ((i + 1 : Nat) : Int) := by rw [wrap_i64 (by omega) (by omega)]; rfl
    rw [drop_cons hy] at hI
    simp only [propsE] at hI
    have hsy := hs _ (List.mem_of_getElem? hy)
    simp -implicitDefEqProofs only [go_sem, reduceIte, Nat.reduceEqDiff, hy]
    refine CALL_of (refIs_ok _ hsy.1.int) ?_
    cases hn : isName y.key with
    | false =>
      simp -implicitDefEqProofs only [go_sem, reduceIte, Nat.reduceEqDiff]
      rw [hI, hn]; rfl
    | true =>
    simp -implicitDefEqProofs only [go_sem, reduceIte, Nat.reduceEqDiff, hy]
    refine CALL_of (refValIs_ok _) ?_
    cases hv : isVal y.val with
    | false =>
      simp -implicitDefEqProofs only [go_sem, reduceIte, Nat.reduceEqDiff]
      rw [hI, hn, hv]; rfl
    | true =>
    simp only [hn, hv, Bool.and_self, if_true] at hI
    simp -implicitDefEqProofs only [go_sem, reduceIte, Nat.reduceEqDiff]
    refine GRDD_true (fun hp0 => ?_) (fun hp0 => ?_)
    · have hp : 0 < i := by simpa using hp0
      obtain ⟨z, hz⟩ : ∃ z, x.l[i - 1]? = some z := ⟨_, List.getElem?_eq_getElem (by omega)⟩
      have hw1 : IntKind.i64.wrap ((i : Int) - 1) = ((i - 1 : Nat) : Int) := by rw [wrap_i64 (by omega) (by omega)]; omega
      have hpr : prevOf x.l i = some z := by simp [prevOf, hz]; omega
      rw [hpr] at hI
      simp -implicitDefEqProofs only [go_sem, reduceIte, Nat.reduceEqDiff, hp0, hy, hz, hw, hw1, le_eq]
      refine condW_split (fun h => ?_) (fun h => ?_)
      · simp -implicitDefEqProofs only [go_sem, reduceIte, Nat.reduceEqDiff]
        rw [hI]; simp only [ordK, h, if_true]
      · simp -implicitDefEqProofs only [go_sem, reduceIte, Nat.reduceEqDiff, hw]
        refine ⟨hlt, ?_⟩
        rw [hI, prevOf_succ hy]; simp only [ordK, h, Bool.false_eq_true, if_false]
    · have hp : i = 0 := by simpa using hp0
      have hpr : prevOf x.l i = none := by simp [prevOf, hp]
      rw [hpr] at hI
      simp -implicitDefEqProofs only [go_sem, reduceIte, Nat.reduceEqDiff, hp0, hy, hw]
      refine ⟨hlt, ?_⟩
      rw [hI, prevOf_succ hy]; simp only [ordK, Bool.false_eq_true, if_false]
  · have hlt : ¬ i < x.l.length := by simpa using h
    simp -implicitDefEqProofs only [go_sem, reduceIte, Nat.reduceEqDiff]
    rw [hI, List.drop_eq_nil_of_le (by omega)]; rfl
theorem refRest_ok (x : Sl Str) (y : Sl MProp) (h : szR x.l y.l) : PCalls Try.prog n_pleachref25_rest [x.av 1 encS, y.av 4 encP] (vI .i64 (restN x.l y.l)) := by
  refine p_pleachref25_rest (Nat.le_of_ble_eq_true rfl) rfl rfl ?_
  obtain ⟨h1, h2, h3, h4⟩ := h
  have r1 := refRow_ok x (by omega) (fun s hs => (h3 s hs).int)
  have r2 := refProps_ok y h2 h4
  clear h1 h2 h3 h4
  unfold restN
  by_cases h8 : (8 : Int) < (x.l.length : Int) <;> by_cases h0 : rowE none x.l = 0 <;> repeat' (first | simp -implicitDefEqProofs only [go_sem, reduceIte, Nat.reduceEqDiff, s_pleachref25_rest, lenA_sl, *] | refine CALL_of r1 ?_ | refine CALL_of r2 ?_ | refine GRD_true (fun _ => ?_) (fun _ => ?_) | refine GRDD_true (fun _ => ?_) (fun _ => ?_) | refine condW_split (fun _ => ?_) (fun _ => ?_))
theorem refNode_ok (n : FNode) (h : szN n) : PCalls Try.prog n_pleachref25_Node [aggP (encN n)] (vI .i64 (nodeE n)) := by
  refine p_pleachref25_Node (Nat.le_of_ble_eq_true rfl) rfl rfl ?_
  have r1 := refIs_ok n.id h.1.int
  have r2 := refRest_ok n.labels n.props h.2
  clear h
  unfold nodeE
  cases hn : isName n.id <;> repeat' (first | simp -implicitDefEqProofs only [go_sem, reduceIte, Nat.reduceEqDiff, s_pleachref25_Node, encN, *] | refine CALL_of r1 ?_ | refine CALL_of r2 ?_ | refine GRD_true (fun _ => ?_) (fun _ => ?_) | refine GRDD_true (fun _ => ?_) (fun _ => ?_) | refine condW_split (fun _ => ?_) (fun _ => ?_))
theorem refEdge_ok (n : FEdge) (h : szE n) : PCalls Try.prog n_pleachref25_Edge [aggP (encE n)] (vI .i64 (edgeE n)) := by
  refine p_pleachref25_Edge (Nat.le_of_ble_eq_true rfl) rfl rfl ?_
  have r1 := refIs_ok n.id h.1.int
  have r3 := refIs_ok n.src h.2.1.int
  have r4 := refIs_ok n.dst h.2.2.1.int
  have r2 := refRest_ok n.labels n.props h.2.2.2
  clear h
  unfold edgeE
  cases hn : isName n.id <;> cases hn1 : isName n.src <;> cases hn2 : isName n.dst <;> repeat' (first | simp -implicitDefEqProofs only [go_sem, reduceIte, Nat.reduceEqDiff, s_pleachref25_Edge, encE, Bool.and_false, *] | refine CALL_of r1 ?_ | refine CALL_of r3 ?_ | refine CALL_of r4 ?_ | refine CALL_of r2 ?_ | refine GRD_true (fun _ => ?_) (fun _ => ?_) | refine GRDD_true (fun _ => ?_) (fun _ => ?_) | refine condW_split (fun _ => ?_) (fun _ => ?_))
end Go.Ab
end PSp15

section PSp16
/- Contracts, part 16: the reference's Wrong. -/
set_option linter.unusedVariables false
set_option linter.unusedSimpArgs false
namespace Go.Ab
open Go.Proofs

/-- The first place of a key. -/
def firstI {α : Type} (key : α → Str) : List α → Str → Nat
  | [], _ => 0
  | x :: r, s => if key x = s then 0 else firstI key r s + 1
theorem firstI_of {α : Type} {key : α → Str} : ∀ {l : List α} {s : Str} {i : Nat} {y : α}, l[i]? = some y → key y = s → (∀ (k : Nat) (a : α), k < i → l[k]? = some a → key a ≠ s) → firstI key l s = i ∧ met key l s = true
  | [], s, i, y, h, _, _ => by simp at h
  | x :: r, s, 0, y, h, hk, _ => by
    simp only [List.getElem?_cons_zero, Option.some.injEq] at h
    subst h
    exact ⟨if_pos hk, by simp [met, hk]⟩
  | x :: r, s, i + 1, y, h, hk, hn => by
    have h0 := hn 0 x (by omega) rfl
    obtain ⟨h1, h2⟩ := firstI_of (key := key) (l := r) (by simpa using h) hk (fun k a hk ha => hn (k + 1) a (by omega) (by simpa using ha))
    exact ⟨by simp only [firstI, if_neg h0, h1], by simp only [met, List.any_cons] at h2 ⊢; rw [h2, Bool.or_true]⟩
theorem met_not {α : Type} {key : α → Str} {l : List α} {s : Str} (h : ∀ (k : Nat) (a : α), k < l.length → l[k]? = some a → key a ≠ s) : met key l s = false := by
  rw [Bool.eq_false_iff]
  simp only [met, Ne, List.any_eq_true, decide_eq_true_eq]
  rintro ⟨a, ha, e⟩
  obtain ⟨k, hk⟩ := List.getElem?_of_mem ha
  exact h k a (List.getElem?_eq_some_iff.1 hk).1 hk e
theorem firstI_low {α : Type} {key : α → Str} {l : List α} (h : Rises key l) {s : Str} (hm : met key l s = true) : firstI key l s = low key l s := by
  obtain ⟨y, hy, hy2, _, _⟩ := split_met h hm
  exact (firstI_of hy hy2 (fun k a hk ha => by have := h.get hk ha hy; rw [hy2] at this; exact ne_of_lt' this)).1

theorem nodeAt_ok (g : FGraph) (hl : g.nodes.l.length ≤ 1000000000000000) (s : Str) : PCalls Try.prog n_pleachref26_NodeAt [aggP (encG g), vS s] (vI .i64 (if met FNode.id g.nodes.l s then (firstI FNode.id g.nodes.l s : Int) else -1)) := by
  refine p_pleachref26_NodeAt (Nat.le_of_ble_eq_true rfl) rfl rfl ?_
  obtain ⟨x, y⟩ := g
  simp only at hl
  simp -implicitDefEqProofs only [go_sem, reduceIte, Nat.reduceEqDiff, s_pleachref26_NodeAt, encG]
  refine loop_up x.l.length 0 (fun i => [(1, vS s), (2, .c (.p (.ptr [x.pv 3 encN, y.pv 5 encE]))), (5, vI .i64 i)]) (fun i => ∀ (k : Nat) (a : FNode), k < i → x.l[k]? = some a → a.id ≠ s) (by omega) (by simp -implicitDefEqProofs only [go_sem, reduceIte, Nat.reduceEqDiff]; rfl) rfl (fun k a h => by omega) ?_
  intro i hi hI
  simp -implicitDefEqProofs only [go_sem, reduceIte, Nat.reduceEqDiff, b_pleachref26_NodeAt_0]
  refine condW_split (fun h => ?_) (fun h => ?_)
  · have hlt : i < x.l.length := by simpa using h
    obtain ⟨z, hz⟩ : ∃ z, x.l[i]? = some z := ⟨_, List.getElem?_eq_getElem hlt⟩
    have hw : IntKind.i64.wrap ((i : Int) + 1) = ((i + 1 : Nat) : Int) := by rw [wrap_i64 (by omega) (by omega)]; rfl
    simp -implicitDefEqProofs only [go_sem, reduceIte, Nat.reduceEqDiff, hz, encN]
    refine condW_split (fun hc => ?_) (fun hc => ?_)
    · obtain ⟨e1, e2⟩ := firstI_of hz (of_decide_eq_true hc) hI
      rw [e1, e2]
      simp -implicitDefEqProofs only [go_sem, reduceIte, Nat.reduceEqDiff]
    · simp -implicitDefEqProofs only [go_sem, reduceIte, Nat.reduceEqDiff, hw]
      refine ⟨hlt, fun k a hk ha => ?_⟩
      rcases Nat.lt_or_ge k i with q | q
      · exact hI k a q ha
      · obtain rfl : k = i := by omega
        rw [hz] at ha; injection ha with ha; rw [← ha]; exact of_decide_eq_false hc
  · have hlt : ¬ i < x.l.length := by simpa using h
    rw [met_not (fun k a hk ha => hI k a (by omega) ha)]
    simp -implicitDefEqProofs only [go_sem, reduceIte, Nat.reduceEqDiff]

theorem neg_lt (b : Bool) (n : Nat) : decide ((if b = true then (n : Int) else -1) < 0) = !b := by
  cases b
  · rfl
  · simp
theorem natNeg (n : Nat) : ((n : Int) < 0) = False := eq_false (by omega)
theorem refWrong_ok (g : FGraph) (h : szG g) : PCalls Try.prog n_pleachref26_Wrong [aggP (encG g)] (vI .i64 (wrongG g)) := by
  refine p_pleachref26_Wrong (Nat.le_of_ble_eq_true rfl) rfl rfl ?_
  have hN := fun s => nodeAt_ok g h.1 s
  obtain ⟨x, y⟩ := g
  obtain ⟨s1, s2, s3, s4⟩ := h
  simp only at s1 s2 s3 s4
  unfold wrongG
  by_cases h5 : (500 : Int) < (x.l.length : Int)
  · simp -implicitDefEqProofs only [go_sem, reduceIte, Nat.reduceEqDiff, s_pleachref26_Wrong, encG, h5, lenA_sl]
  by_cases h6 : (1000 : Int) < (y.l.length : Int)
  · simp -implicitDefEqProofs only [go_sem, reduceIte, Nat.reduceEqDiff, s_pleachref26_Wrong, encG, h5, h6, lenA_sl]
  simp -implicitDefEqProofs only [go_sem, reduceIte, Nat.reduceEqDiff, s_pleachref26_Wrong, encG, h5, h6, lenA_sl]
  refine loop_up x.l.length 0 (fun i => [(1, .c (.p (.ptr [x.pv 3 encN, y.pv 5 encE]))), (3, vI .i64 i)]) (fun i => nodesE none x.l = nodesE (prevOf x.l i) (x.l.drop i)) (by omega) (by simp -implicitDefEqProofs only [go_sem, reduceIte, Nat.reduceEqDiff]; rfl) rfl (by simp [prevOf]) ?_
  intro i hi hI
  simp -implicitDefEqProofs only [go_sem, reduceIte, Nat.reduceEqDiff, b_pleachref26_Wrong_0]
  refine condW_split (fun h => ?_) (fun h => ?_)
  · have hlt : i < x.l.length := by simpa using h
    obtain ⟨n, hn⟩ : ∃ n, x.l[i]? = some n := ⟨_, List.getElem?_eq_getElem hlt⟩
    have hw : IntKind.i64.wrap ((i : Int) + 1) = ((i + 1 : Nat) : Int) := by rw [wrap_i64 (by omega) (by omega)]; rfl
    rw [drop_cons hn] at hI
    simp only [nodesE] at hI
    have hsy := s3 _ (List.mem_of_getElem? hn)
    simp -implicitDefEqProofs only [go_sem, reduceIte, Nat.reduceEqDiff, hn, encN]
    refine CALL_of (refNode_ok n hsy) ?_
    simp -implicitDefEqProofs only [go_sem, reduceIte, Nat.reduceEqDiff]
    by_cases h0 : nodeE n = 0
    · rw [if_pos h0] at hI
      simp -implicitDefEqProofs only [go_sem, reduceIte, Nat.reduceEqDiff, h0]
      refine GRDD_true (fun hp0 => ?_) (fun hp0 => ?_)
      · have hp : 0 < i := by simpa using hp0
        obtain ⟨z, hz⟩ : ∃ z, x.l[i - 1]? = some z := ⟨_, List.getElem?_eq_getElem (by omega)⟩
        have hw1 : IntKind.i64.wrap ((i : Int) - 1) = ((i - 1 : Nat) : Int) := by rw [wrap_i64 (by omega) (by omega)]; omega
        have hpr : prevOf x.l i = some z := by simp [prevOf, hz]; omega
        rw [hpr] at hI
        simp -implicitDefEqProofs only [go_sem, reduceIte, Nat.reduceEqDiff, hp0, hn, hz, hw, hw1, le_eq, encN]
        refine condW_split (fun h => ?_) (fun h => ?_)
        · simp only [ordK, h, if_true] at hI
          simp -implicitDefEqProofs only [go_sem, reduceIte, Nat.reduceEqDiff, hI]
        · simp -implicitDefEqProofs only [go_sem, reduceIte, Nat.reduceEqDiff, hw]
          refine ⟨hlt, ?_⟩
          rw [hI, prevOf_succ hn]; simp only [ordK, h, Bool.false_eq_true, if_false]
      · have hp : i = 0 := by simpa using hp0
        have hpr : prevOf x.l i = none := by simp [prevOf, hp]
        rw [hpr] at hI
        simp -implicitDefEqProofs only [go_sem, reduceIte, Nat.reduceEqDiff, hp0, hw]
        refine ⟨hlt, ?_⟩
        rw [hI, prevOf_succ hn]; simp only [ordK, Bool.false_eq_true, if_false]
    · rw [if_neg h0] at hI
      simp -implicitDefEqProofs only [go_sem, reduceIte, Nat.reduceEqDiff, h0, hI]
  · have hlt : ¬ i < x.l.length := by simpa using h
    have hz : nodesE none x.l = 0 := by rw [hI, List.drop_eq_nil_of_le (by omega)]; rfl
    clear hI
    simp -implicitDefEqProofs only [go_sem, reduceIte, Nat.reduceEqDiff, hz]
    refine loop_up y.l.length 0 (fun i => [(1, .c (.p (.ptr [x.pv 3 encN, y.pv 5 encE]))), (5, vI .i64 i)]) (fun i => edgesE x.l none y.l = edgesE x.l (prevOf y.l i) (y.l.drop i)) (by omega) (by simp -implicitDefEqProofs only [go_sem, reduceIte, Nat.reduceEqDiff]; rfl) rfl (by simp [prevOf]) ?_
    intro i hi hI
    simp -implicitDefEqProofs only [go_sem, reduceIte, Nat.reduceEqDiff, b_pleachref26_Wrong_2]
    refine condW_split (fun h => ?_) (fun h => ?_)
    · have hlt : i < y.l.length := by simpa using h
      obtain ⟨n, hn⟩ : ∃ n, y.l[i]? = some n := ⟨_, List.getElem?_eq_getElem hlt⟩
      have hw : IntKind.i64.wrap ((i : Int) + 1) = ((i + 1 : Nat) : Int) := by rw [wrap_i64 (by omega) (by omega)]; rfl
      rw [drop_cons hn] at hI
      simp only [edgesE] at hI
      have hsy := s4 _ (List.mem_of_getElem? hn)
      simp -implicitDefEqProofs only [go_sem, reduceIte, Nat.reduceEqDiff, hn, encE, storeA, setSeg, List.drop_zero, List.cons_append, List.nil_append, List.append_nil, List.drop_succ_cons, List.drop_nil, ghK, doGh, and_self]
      refine CALL_of (refEdge_ok n hsy) ?_
      simp -implicitDefEqProofs only [go_sem, reduceIte, Nat.reduceEqDiff]
      by_cases h0 : edgeE n = 0
      · rw [if_pos h0] at hI
        simp -implicitDefEqProofs only [go_sem, reduceIte, Nat.reduceEqDiff, h0]
        refine GRDD_true (fun hp0 => ?_) (fun hp0 => ?_)
        · have hp : 0 < i := by simpa using hp0
          obtain ⟨z, hz2⟩ : ∃ z, y.l[i - 1]? = some z := ⟨_, List.getElem?_eq_getElem (by omega)⟩
          have hw1 : IntKind.i64.wrap ((i : Int) - 1) = ((i - 1 : Nat) : Int) := by rw [wrap_i64 (by omega) (by omega)]; omega
          have hpr : prevOf y.l i = some z := by simp [prevOf, hz2]; omega
          rw [hpr] at hI
          simp -implicitDefEqProofs only [go_sem, reduceIte, Nat.reduceEqDiff, hp0, hz2, hw1, le_eq, encE]
          refine condW_split (fun h => ?_) (fun h => ?_)
          · simp only [ordK, h, if_true] at hI
            simp -implicitDefEqProofs only [go_sem, reduceIte, Nat.reduceEqDiff, hI]
          · simp only [ordK, h, Bool.false_eq_true, if_false] at hI
            simp -implicitDefEqProofs only [go_sem, reduceIte, Nat.reduceEqDiff]
            refine CALL_of (hN n.src) ?_
            cases m1 : hasN x.l n.src with
            | false =>
              rw [m1] at hI
              unfold hasN at m1
              simp -implicitDefEqProofs only [go_sem, reduceIte, Nat.reduceEqDiff, neg_lt, m1]
              rw [hI]; rfl
            | true =>
            rw [m1] at hI
            unfold hasN at m1
            simp -implicitDefEqProofs only [go_sem, reduceIte, Nat.reduceEqDiff, neg_lt, natNeg, m1]
            refine CALL_of (hN n.dst) ?_
            cases m2 : hasN x.l n.dst with
            | false =>
              rw [m2] at hI
              unfold hasN at m2
              simp -implicitDefEqProofs only [go_sem, reduceIte, Nat.reduceEqDiff, neg_lt, m2]
              rw [hI]; rfl
            | true =>
              rw [m2] at hI
              unfold hasN at m2
              simp -implicitDefEqProofs only [go_sem, reduceIte, Nat.reduceEqDiff, neg_lt, natNeg, m2, hw]
              exact ⟨hlt, by rw [hI, prevOf_succ hn]; rfl⟩
        · have hp : i = 0 := by simpa using hp0
          have hpr : prevOf y.l i = none := by simp [prevOf, hp]
          rw [hpr] at hI
          simp only [ordK, Bool.false_eq_true, if_false] at hI
          simp -implicitDefEqProofs only [go_sem, reduceIte, Nat.reduceEqDiff, hp0]
          refine CALL_of (hN n.src) ?_
          cases m1 : hasN x.l n.src with
          | false =>
            rw [m1] at hI
            unfold hasN at m1
            simp -implicitDefEqProofs only [go_sem, reduceIte, Nat.reduceEqDiff, neg_lt, m1]
            rw [hI]; rfl
          | true =>
          rw [m1] at hI
          unfold hasN at m1
          simp -implicitDefEqProofs only [go_sem, reduceIte, Nat.reduceEqDiff, neg_lt, m1]
          refine CALL_of (hN n.dst) ?_
          cases m2 : hasN x.l n.dst with
          | false =>
            rw [m2] at hI
            unfold hasN at m2
            simp -implicitDefEqProofs only [go_sem, reduceIte, Nat.reduceEqDiff, neg_lt, m2]
            rw [hI]; rfl
          | true =>
            rw [m2] at hI
            unfold hasN at m2
            simp -implicitDefEqProofs only [go_sem, reduceIte, Nat.reduceEqDiff, neg_lt, natNeg, m2, hw]
            exact ⟨hlt, by rw [hI, prevOf_succ hn]; rfl⟩
      · rw [if_neg h0] at hI
        simp -implicitDefEqProofs only [go_sem, reduceIte, Nat.reduceEqDiff, h0, hI]
    · have hlt : ¬ i < y.l.length := by simpa using h
      have hz2 : edgesE x.l none y.l = 0 := by rw [hI, List.drop_eq_nil_of_le (by omega)]; rfl
      simp -implicitDefEqProofs only [go_sem, reduceIte, Nat.reduceEqDiff, hz2]
end Go.Ab
end PSp16

section PSp17
/- Contracts, part 17: are two rows the same; the law GraphOps. -/
set_option linter.unusedVariables false
set_option linter.unusedSimpArgs false
namespace Go.Ab
open Go.Proofs

theorem take_eq_succ {α : Type} {a b : List α} {i : Nat} {y z : α} (hy : a[i]? = some y) (hz : b[i]? = some z) : a.take (i + 1) = b.take (i + 1) ↔ a.take i = b.take i ∧ y = z := by
  rw [List.take_add_one, List.take_add_one, hy, hz]
  have hl : (a.take i).length = (b.take i).length := by
    have h1 := (List.getElem?_eq_some_iff.1 hy).1
    have h2 := (List.getElem?_eq_some_iff.1 hz).1
    simp; omega
  constructor
  · intro h
    have := List.append_inj h hl
    simpa using this
  · rintro ⟨h, rfl⟩
    rw [h]
theorem sameTexts_ok (x y : Sl Str) (hl : x.l.length ≤ 1000000000000000) : PCalls Try.prog n_pleachref25_SameTexts [x.av 1 encS, y.av 1 encS] (vB (decide (x.l = y.l))) := by
  refine p_pleachref25_SameTexts (Nat.le_of_ble_eq_true rfl) rfl rfl ?_
  by_cases he : (x.l.length : Int) = (y.l.length : Int)
  · simp -implicitDefEqProofs only [go_sem, reduceIte, Nat.reduceEqDiff, s_pleachref25_SameTexts, lenA_sl, he]
    refine loop_up x.l.length 0 (fun i => [(0, x.av 1 encS), (1, y.av 1 encS), (5, vI .i64 i)]) (fun i => x.l.take i = y.l.take i) (by omega) (by simp -implicitDefEqProofs only [go_sem, reduceIte, Nat.reduceEqDiff]; rfl) rfl rfl ?_
    intro i hi hI
    simp -implicitDefEqProofs only [go_sem, reduceIte, Nat.reduceEqDiff, b_pleachref25_SameTexts_0]
    refine condW_split (fun h => ?_) (fun h => ?_)
    · have hlt : i < x.l.length := by simpa using h
      obtain ⟨z, hz⟩ : ∃ z, x.l[i]? = some z := ⟨_, List.getElem?_eq_getElem hlt⟩
      obtain ⟨u, hu⟩ : ∃ u, y.l[i]? = some u := ⟨_, List.getElem?_eq_getElem (by omega)⟩
      have hst := take_eq_succ hz hu
      simp -implicitDefEqProofs only [go_sem, reduceIte, Nat.reduceEqDiff, hz, hu, one_cast, wadd (show i + 1 ≤ 9000000000000000000 by omega)]
      refine condW_split (fun hc => ?_) (fun hc => ?_)
      · have hne : ¬ z = u := by simpa using hc
        have : ¬ x.l = y.l := fun e => hne (by rw [e, hu] at hz; injection hz with hz; exact hz.symm)
        simp -implicitDefEqProofs only [go_sem, reduceIte, Nat.reduceEqDiff, this]
      · have hne : z = u := by simpa using hc
        simp -implicitDefEqProofs only [go_sem, reduceIte, Nat.reduceEqDiff, one_cast, wadd (show i + 1 ≤ 9000000000000000000 by omega)]
        exact ⟨hlt, hst.2 ⟨hI, hne⟩⟩
    · have hlt : ¬ i < x.l.length := by simpa using h
      have : x.l = y.l := by rw [List.take_of_length_le (by omega), List.take_of_length_le (by omega)] at hI; exact hI
      simp -implicitDefEqProofs only [go_sem, reduceIte, Nat.reduceEqDiff, this]
  · have : ¬ x.l = y.l := fun e => he (by rw [e])
    simp -implicitDefEqProofs only [go_sem, reduceIte, Nat.reduceEqDiff, s_pleachref25_SameTexts, lenA_sl, he, this]
theorem eqP_ok (y z : MProp) : eqCells [.str, .int, .int, .str] [CV.p (.str y.key), .p (.int .i64 y.val.kind), .p (.int .i64 y.val.num), .p (.str y.val.text)] [CV.p (.str z.key), .p (.int .i64 z.val.kind), .p (.int .i64 z.val.num), .p (.str z.val.text)] = some (decide (y = z)) := by
  obtain ⟨k, a, b, c⟩ := y
  obtain ⟨k', a', b', c'⟩ := z
  simp [eqCells, eqCell, Bool.decide_and]
theorem sameProps_ok (x y : Sl MProp) (hl : x.l.length ≤ 1000000000000000) : PCalls Try.prog n_pleachref25_SameProps [x.av 4 encP, y.av 4 encP] (vB (decide (x.l = y.l))) := by
  refine p_pleachref25_SameProps (Nat.le_of_ble_eq_true rfl) rfl rfl ?_
  by_cases he : (x.l.length : Int) = (y.l.length : Int)
  · simp -implicitDefEqProofs only [go_sem, reduceIte, Nat.reduceEqDiff, s_pleachref25_SameProps, lenA_sl, he]
    refine loop_up x.l.length 0 (fun i => [(0, x.av 4 encP), (1, y.av 4 encP), (5, vI .i64 i)]) (fun i => x.l.take i = y.l.take i) (by omega) (by simp -implicitDefEqProofs only [go_sem, reduceIte, Nat.reduceEqDiff]; rfl) rfl rfl ?_
    intro i hi hI
    simp -implicitDefEqProofs only [go_sem, reduceIte, Nat.reduceEqDiff, b_pleachref25_SameProps_0]
    refine condW_split (fun h => ?_) (fun h => ?_)
    · have hlt : i < x.l.length := by simpa using h
      obtain ⟨z, hz⟩ : ∃ z, x.l[i]? = some z := ⟨_, List.getElem?_eq_getElem hlt⟩
      obtain ⟨u, hu⟩ : ∃ u, y.l[i]? = some u := ⟨_, List.getElem?_eq_getElem (by omega)⟩
      have hst := take_eq_succ hz hu
      simp -implicitDefEqProofs only [go_sem, reduceIte, Nat.reduceEqDiff, hz, hu, encP, eqSA, eqP_ok, neg]
      refine condW_split (fun hc => ?_) (fun hc => ?_)
      · have hne : ¬ z = u := by simpa using hc
        have : ¬ x.l = y.l := fun e => hne (by rw [e, hu] at hz; injection hz with hz; exact hz.symm)
        simp -implicitDefEqProofs only [go_sem, reduceIte, Nat.reduceEqDiff, this]
      · have hne : z = u := by simpa using hc
        simp -implicitDefEqProofs only [go_sem, reduceIte, Nat.reduceEqDiff, one_cast, wadd (show i + 1 ≤ 9000000000000000000 by omega)]
        exact ⟨hlt, hst.2 ⟨hI, hne⟩⟩
    · have hlt : ¬ i < x.l.length := by simpa using h
      have : x.l = y.l := by rw [List.take_of_length_le (by omega), List.take_of_length_le (by omega)] at hI; exact hI
      simp -implicitDefEqProofs only [go_sem, reduceIte, Nat.reduceEqDiff, this]
  · have : ¬ x.l = y.l := fun e => he (by rw [e])
    simp -implicitDefEqProofs only [go_sem, reduceIte, Nat.reduceEqDiff, s_pleachref25_SameProps, lenA_sl, he, this]
end Go.Ab
end PSp17

section PSp18
/- Contracts, part 18: the law GraphOps, but for its example. -/
set_option linter.unusedVariables false
set_option linter.unusedSimpArgs false
set_option maxHeartbeats 4000000
namespace Go.Ab
open Go.Proofs

def strR (l : List Str) (p : List MProp) : Prop := (∀ s ∈ l, szS s) ∧ ∀ q ∈ p, szP q
def strN (n : FNode) : Prop := szS n.id ∧ strR n.labels.l n.props.l
def strE (n : FEdge) : Prop := szS n.id ∧ szS n.src ∧ szS n.dst ∧ strR n.labels.l n.props.l
def strG (g : FGraph) : Prop := (∀ n ∈ g.nodes.l, strN n) ∧ ∀ n ∈ g.edges.l, strE n
theorem le_sum {α : Type} (f : α → Nat) {a : α} : ∀ {l : List α}, a ∈ l → f a ≤ (l.map f).sum
  | b :: l, h => by
    rw [List.map_cons, List.sum_cons]
    rcases List.mem_cons.1 h with rfl | h
    · omega
    · have := le_sum f h; omega
theorem weightN_few {l : List Str} {p : List MProp} (h : weightN l p ≤ 5000) : l.length ≤ 20 ∧ p.length ≤ 20 := by
  unfold weightN at h
  split at h <;> omega
/-- Of few parts: then all rows are short. -/
theorem szG_few {g : FGraph} (h : strG g) (hf : fewG g = true) : szG g := by
  unfold fewG at hf
  simp only [Bool.and_eq_true, Bool.not_eq_true', decide_eq_false_iff_not, decide_eq_true_eq] at hf
  obtain ⟨h1, h2, h3⟩ := hf
  refine ⟨by omega, by omega, fun n hn => ?_, fun n hn => ?_⟩
  · have h4 := le_sum nodeW hn
    obtain ⟨c1, c2⟩ := weightN_few (l := n.labels.l) (p := n.props.l) (by have h5 : nodeW n = m5 n.id + weightN n.labels.l n.props.l := rfl; omega)
    obtain ⟨s1, s2, s3⟩ := h.1 n hn
    exact ⟨s1, by omega, by omega, s2, s3⟩
  · have h4 := le_sum edgeW hn
    obtain ⟨c1, c2⟩ := weightN_few (l := n.labels.l) (p := n.props.l) (by have h5 : edgeW n = m5 n.id + m5 n.src + m5 n.dst + weightN n.labels.l n.props.l := rfl; omega)
    obtain ⟨s1, s2, s3, s4, s5⟩ := h.2 n hn
    exact ⟨s1, s2, s3, by omega, by omega, s4, s5⟩
def szO (o : MOp) : Prop := szS o.id ∧ szS o.src ∧ szS o.dst ∧ szS o.key ∧ szS o.val.text

theorem ordK_some {α : Type} {key : α → Str} {q x : α} : ordK key (some q) x = false ↔ lt (key q) (key x) = true := by simp [ordK]
theorem rowE_zero : ∀ {p : Option Str} {l : List Str}, rowE p l = 0 → (∀ q, p = some q → ∀ a ∈ l, lt q a = true) ∧ Rises id l ∧ ∀ a ∈ l, isName a = true
  | p, [], _ => ⟨fun _ _ a ha => (by simp at ha), List.Pairwise.nil, fun a ha => (by simp at ha)⟩
  | p, x :: r, h => by
    simp only [rowE] at h
    split at h
    · rename_i hn
      split at h
      · cases h
      · rename_i ho
        obtain ⟨h1, h2, h3⟩ := rowE_zero h
        refine ⟨?_, List.pairwise_cons.2 ⟨h1 x rfl, h2⟩, fun a ha => ?_⟩
        · rintro q rfl a ha
          have hqx : lt q x = true := by simpa [ordBad] using ho
          rcases List.mem_cons.1 ha with rfl | ha
          · exact hqx
          · exact lt_trans' hqx (h1 x rfl a ha)
        · rcases List.mem_cons.1 ha with rfl | ha
          · exact hn
          · exact h3 a ha
    · cases h
theorem propsE_zero : ∀ {p : Option MProp} {l : List MProp}, propsE p l = 0 → (∀ q, p = some q → ∀ a ∈ l, lt q.key a.key = true) ∧ Rises MProp.key l ∧ ∀ a ∈ l, isName a.key = true ∧ isVal a.val = true
  | p, [], _ => ⟨fun _ _ a ha => (by simp at ha), List.Pairwise.nil, fun a ha => (by simp at ha)⟩
  | p, x :: r, h => by
    simp only [propsE] at h
    split at h
    · rename_i hn
      split at h
      · cases h
      · rename_i ho
        obtain ⟨h1, h2, h3⟩ := propsE_zero h
        refine ⟨?_, List.pairwise_cons.2 ⟨h1 x rfl, h2⟩, fun a ha => ?_⟩
        · rintro q rfl a ha
          have hqx : lt q.key x.key = true := by simpa [ordK] using ho
          rcases List.mem_cons.1 ha with rfl | ha
          · exact hqx
          · exact lt_trans' hqx (h1 x rfl a ha)
        · rcases List.mem_cons.1 ha with rfl | ha
          · simpa using hn
          · exact h3 a ha
    · cases h
theorem nodesE_zero : ∀ {p : Option FNode} {l : List FNode}, nodesE p l = 0 → (∀ q, p = some q → ∀ a ∈ l, lt q.id a.id = true) ∧ Rises FNode.id l ∧ ∀ a ∈ l, nodeE a = 0
  | p, [], _ => ⟨fun _ _ a ha => (by simp at ha), List.Pairwise.nil, fun a ha => (by simp at ha)⟩
  | p, x :: r, h => by
    simp only [nodesE] at h
    split at h
    · rename_i hn
      split at h
      · cases h
      · rename_i ho
        obtain ⟨h1, h2, h3⟩ := nodesE_zero h
        refine ⟨?_, List.pairwise_cons.2 ⟨h1 x rfl, h2⟩, fun a ha => ?_⟩
        · rintro q rfl a ha
          have hqx : lt q.id x.id = true := by simpa [ordK] using ho
          rcases List.mem_cons.1 ha with rfl | ha
          · exact hqx
          · exact lt_trans' hqx (h1 x rfl a ha)
        · rcases List.mem_cons.1 ha with rfl | ha
          · exact hn
          · exact h3 a ha
    · exact absurd h (by assumption)
theorem restN_zero {l : List Str} {p : List MProp} (h : restN l p = 0) : l.length ≤ 8 ∧ p.length ≤ 8 ∧ rowE none l = 0 ∧ propsE none p = 0 := by
  unfold restN at h
  split at h
  · cases h
  · split at h
    · unfold propsN at h
      split at h
      · cases h
      · exact ⟨by omega, by omega, by assumption, h⟩
    · exact absurd h (by assumption)
theorem nodeE_zero {n : FNode} (h : nodeE n = 0) : isName n.id = true ∧ n.labels.l.length ≤ 8 ∧ n.props.l.length ≤ 8 ∧ Rises id n.labels.l ∧ Rises MProp.key n.props.l := by
  unfold nodeE at h
  split at h
  · obtain ⟨h1, h2, h3, h4⟩ := restN_zero h
    exact ⟨by assumption, h1, h2, (rowE_zero h3).2.1, (propsE_zero h4).2.1⟩
  · cases h
theorem wrong_nodes {g : FGraph} (h : wrongG g = 0) : ∀ n ∈ g.nodes.l, nodeE n = 0 := by
  unfold wrongG at h
  split at h
  · cases h
  · split at h
    · cases h
    · split at h
      · exact (nodesE_zero (by assumption)).2.2
      · exact absurd h (by assumption)

theorem tailOps_ok (aw : PCalls Try.prog n_pleachlaw26_awake [] (vB true)) (g : FGraph) (o : MOp) (hl : g.nodes.l.length ≤ 1000000000000000) (hk : szS o.key) (hz : ∀ n ∈ g.nodes.l, nodeE n = 0) (e : List (Nat × AV)) (he : keepE [3, 60, 61, 62] e = [(3, .c (.p (.ptr (encO o)))), (60, g.nodes.av 3 encN), (61, vI .i64 g.nodes.l.length), (62, vI .i64 0)]) :
    W Try.prog (.loop [3, 60, 61, 62] b_pleachlaw26_GraphOps_0) (blkK 0 (seqK (W Try.prog (.seq (.ops [⟨none, some 102, .call n_pleachlaw26_awake []⟩, ⟨none, some 4, .move (.t 102)⟩] []) .ret)) (RETK r_pleachlaw26_GraphOps fun a H _ => FRZ (vB true) a H))) ⟨e, [], 28⟩ := by
  obtain ⟨x, y⟩ := g
  simp only at hl hz he
  refine loop_row (fun (i : Nat) => [(3, .c (.p (.ptr (encO o)))), (60, x.av 3 encN), (61, vI .i64 x.l.length), (62, vI .i64 i)]) (fun _ => []) (fun i => x.l.length - i) (fun i => i ≤ x.l.length) 0 ?_ (by omega) ?_
  · unfold KEEP
    simp only [he]
    simp -implicitDefEqProofs only [go_sem, reduceIte, Nat.reduceEqDiff]
    rfl
  intro i hi
  simp -implicitDefEqProofs only [go_sem, reduceIte, Nat.reduceEqDiff, b_pleachlaw26_GraphOps_0]
  refine condW_split (fun h => ?_) (fun h => ?_)
  · have hlt : i < x.l.length := by simpa using h
    obtain ⟨n, hn⟩ : ∃ n, x.l[i]? = some n := ⟨_, List.getElem?_eq_getElem hlt⟩
    obtain ⟨_, b1, b2, r1, r2⟩ := nodeE_zero (hz n (List.mem_of_getElem? hn))
    obtain ⟨e1, e2, e3⟩ := turn_same n.labels n.props o r1
    have t1 := graphTurn_ok n.labels n.props o r1 r2 (by omega) (by omega)
    have t2 := refTurn_ok n.labels n.props o r2 (by omega) (by omega) hk
    have hb : (turnR n.labels n.props o).1.l.length ≤ 1000000000000000 ∧ (turnR n.labels n.props o).2.1.l.length ≤ 1000000000000000 := by
      have c1 := labelR_len n.labels o.key
      have c2 := unlabelR_len n.labels o.key
      have c3 := setR_len n.props o.key o.val
      have c4 := unsetR_len n.props o.key
      have hc : ∀ {α : Type} (x : Sl α), x.clone.l = x.l := fun x => rfl
      have hnn : ∀ {α : Type}, (Sl.none : Sl α).l = [] := rfl
      unfold turnR
      repeat' split
      all_goals simp only [hc, hnn, List.length_nil]
      all_goals constructor <;> omega
    have t3 := sameTexts_ok (turnR n.labels n.props o).1 (turnR' n.labels n.props o).1 hb.1
    have t4 := sameProps_ok (turnR n.labels n.props o).2.1 (turnR' n.labels n.props o).2.1 hb.2
    simp -implicitDefEqProofs only [go_sem, reduceIte, Nat.reduceEqDiff, hn, encN, encO, storeA, setSeg, List.drop_zero, List.cons_append, List.nil_append, List.append_nil, List.drop_succ_cons, List.drop_nil, ghK, doGh, and_self]
    refine CALL_of t1 ?_
    simp -implicitDefEqProofs only [go_sem, reduceIte, Nat.reduceEqDiff, encO]
    refine CALL_of t2 ?_
    simp -implicitDefEqProofs only [go_sem, reduceIte, Nat.reduceEqDiff, e1]
    refine CALL_of t3 ?_
    simp -implicitDefEqProofs only [go_sem, reduceIte, Nat.reduceEqDiff, e2]
    refine CALL_of t4 ?_
    simp -implicitDefEqProofs only [go_sem, reduceIte, Nat.reduceEqDiff, e3, one_cast, wadd (show i + 1 ≤ 9000000000000000000 by omega), KEEP]
    exact ⟨i + 1, by omega, by omega, rfl⟩
  · simp -implicitDefEqProofs only [go_sem, reduceIte, Nat.reduceEqDiff]
    refine CALL_of aw ?_
    simp -implicitDefEqProofs only [go_sem, reduceIte, Nat.reduceEqDiff]

theorem lawOps_ok (aw : PCalls Try.prog n_pleachlaw26_awake [] (vB true)) (g : FGraph) (o : MOp) (hg : strG g) (ho : szO o) : PCalls Try.prog n_pleachlaw26_GraphOps [aggP (encG g), aggP (encO o)] (vB true) := by
  refine p_pleachlaw26_GraphOps (Nat.le_of_ble_eq_true rfl) rfl rfl ?_
  have f1 := few_ok g
  have f3 : PCalls Try.prog n_pleachref26_FewOps [.c (.p (.sl 8 true [encO o]))] (vB (fewOps [o])) := fewOps_ok ⟨some true, [o], fun h => by cases h⟩
  simp -implicitDefEqProofs only [go_sem, reduceIte, Nat.reduceEqDiff, s_pleachlaw26_GraphOps, encG, encO]
  refine CALL_of f1 ?_
  cases hf : fewG g with
  | false =>
    simp -implicitDefEqProofs only [go_sem, reduceIte, Nat.reduceEqDiff]
    refine CALL_of aw ?_
    simp -implicitDefEqProofs only [go_sem, reduceIte, Nat.reduceEqDiff]
  | true =>
  have hz := szG_few hg hf
  have f2 := refWrong_ok g hz
  have hz1 := hz.1
  clear hz
  simp -implicitDefEqProofs only [go_sem, reduceIte, Nat.reduceEqDiff]
  refine CALL_of f2 ?_
  by_cases hw : wrongG g = 0
  case neg =>
    simp -implicitDefEqProofs only [go_sem, reduceIte, Nat.reduceEqDiff, hw]
    refine CALL_of aw ?_
    simp -implicitDefEqProofs only [go_sem, reduceIte, Nat.reduceEqDiff]
  simp -implicitDefEqProofs only [go_sem, reduceIte, Nat.reduceEqDiff, hw]
  refine CALL_of f3 ?_
  cases hfo : fewOps [o] with
  | false =>
    simp -implicitDefEqProofs only [go_sem, reduceIte, Nat.reduceEqDiff]
    refine CALL_of aw ?_
    simp -implicitDefEqProofs only [go_sem, reduceIte, Nat.reduceEqDiff]
  | true =>
  simp -implicitDefEqProofs only [go_sem, reduceIte, Nat.reduceEqDiff]
  refine CALL_of (refRight_ok o ho.1 ho.2.1 ho.2.2.1 ho.2.2.2.1) ?_
  have hz := wrong_nodes hw
  cases hr : rightO o <;> by_cases k7 : o.kind = 7 <;> by_cases k8 : o.kind = 8 <;> by_cases k11 : o.kind = 11 <;> by_cases k12 : o.kind = 12 <;> try omega
  all_goals
    simp -implicitDefEqProofs only [go_sem, reduceIte, Nat.reduceEqDiff]
    refine CALLD_of (graphRight_ok o) ?_
    simp -implicitDefEqProofs only [go_sem, reduceIte, Nat.reduceEqDiff, hr, Nat.testBit]
    refine CALLD_of (ofEdge_ok o.kind) ?_
    simp -implicitDefEqProofs only [go_sem, reduceIte, Nat.reduceEqDiff, ofEdge, k7, k8, k11, k12, eqBA, neg, Bool.or_false, Bool.or_true, Bool.or_self, beq_self_eq_true, Bool.not_true]
    refine tailOps_ok aw g o hz1 ho.2.2.2.1 hz _ ?_
    simp only [encO, k7, k8, k11, k12]
    first
      | (simp -implicitDefEqProofs only [go_sem, reduceIte, Nat.reduceEqDiff]; done)
      | (simp -implicitDefEqProofs only [go_sem, reduceIte, Nat.reduceEqDiff]; rfl)
end Go.Ab
end PSp18

section PSp20
/- Contracts, part 20: a reading of memory as values that are never written. -/
set_option linter.unusedVariables false
set_option linter.unusedSimpArgs false
namespace Go.Ab
open Go.Proofs Go.ChangeShapes

/-- The places that lie in a world. -/
def below (w : World) : Imm := fun b _ => b < w.heap.size
def RepD (w : World) (l : List PV) (cs : List Value) : Prop := cs.length = l.length ∧ ∀ (j : Nat) (c : PV) (v : Value), l[j]? = some c → cs[j]? = some v → RepP w (below w) c v
theorem RepD.one {w : World} {c : PV} {v : Value} (h : RepP w (below w) c v) : RepD w [c] [v] := ⟨rfl, fun j c' v' h1 h2 => by
  cases j with
  | zero => cases h1; cases h2; exact h
  | succ j => simp at h1⟩
theorem RepD.append {w : World} {a b : List PV} {cs ds : List Value} (h : RepD w a cs) (k : RepD w b ds) : RepD w (a ++ b) (cs ++ ds) := by
  refine ⟨by simp [h.1, k.1], fun j c v h1 h2 => ?_⟩
  by_cases hj : j < a.length
  · rw [List.getElem?_append_left hj] at h1
    rw [List.getElem?_append_left (by rw [h.1]; exact hj)] at h2
    exact h.2 j c v h1 h2
  · rw [List.getElem?_append_right (by omega)] at h1
    rw [List.getElem?_append_right (by rw [h.1]; omega), h.1] at h2
    exact k.2 _ c v h1 h2
theorem RepD.glue {w : World} {a b : List PV} {cs : List Value} {o k m : Nat} (h : RepD w a ((cs.drop o).take k)) (h' : RepD w b ((cs.drop (o + k)).take m)) : RepD w (a ++ b) ((cs.drop o).take (k + m)) := by
  rw [List.take_add, List.drop_drop]
  exact h.append h'
theorem RepD.whole {w : World} {a : List PV} {cs : List Value} {k : Nat} (hl : cs.length = k) (h : RepD w a ((cs.drop 0).take k)) : RepD w a cs := by
  rw [List.drop_zero, List.take_of_length_le (by omega)] at h
  exact h

/-- Each reading of type t is one of these. -/
def Dec (P : Program) (t n : Nat) {α : Type} (enc : α → List PV) (ok : α → Prop) : Prop :=
  P.cellsOf t = n ∧ (∀ a, (enc a).length = n) ∧ ∀ (H : Type) (e : TypeId × Value → H) (w : World) (fuel : Nat) (cs : List Value) (x : DataW H × List MemPlace),
    DataW.trod e P w 0 (fun _ => true) true fuel t cs = some x → ∃ a, ok a ∧ RepD w (enc a) cs

theorem dec_int {P : Program} {t : Nat} {k : IntKind} (ht : P.underlying t = some (.int k)) (hc : P.cellsOf t = 1) : Dec P t 1 (fun n : Int => [.int k n]) (fun n => (Lit.int k n).wf = true) := by
  refine ⟨hc, fun _ => rfl, fun H e w fuel cs x h => ?_⟩
  obtain ⟨n, rfl, _, hw⟩ := DataW.trod_int ht h
  exact ⟨n, hw, .one (.int k n)⟩
theorem dec_str {P : Program} {t : Nat} (ht : P.underlying t = some .string) (hc : P.cellsOf t = 1) : Dec P t 1 encS szS := by
  refine ⟨hc, fun _ => rfl, fun H e w fuel cs x h => ?_⟩
  obtain ⟨s, rfl, _, hw⟩ := DataW.trod_string ht h
  refine ⟨s.data.toList, ?_, .one ?_⟩
  · unfold szS
    have h1 : s.data.toList.length = s.size := Array.length_toList
    have h2 : maxLen = 9223372036854775807 := rfl
    omega
  · have := RepP.str (w := w) (F := below w) s.data.toList
    simpa using this
theorem dec_bool {P : Program} {t : Nat} (ht : P.underlying t = some .bool) (hc : P.cellsOf t = 1) : Dec P t 1 (fun b : Bool => [.bool b]) (fun _ => True) := by
  refine ⟨hc, fun _ => rfl, fun H e w fuel cs x h => ?_⟩
  obtain ⟨b, rfl, _⟩ := DataW.trod_bool ht h
  exact ⟨b, trivial, .one (.bool b)⟩

theorem cell_lt {w : World} {a : Addr} {v : Value} (h : w.cell? a = some v) : a.block < w.heap.size ∧ a.spot = none := by
  unfold World.cell? at h
  split at h
  · rename_i c t f hb
    split at h
    · cases h
    · rename_i hs
      refine ⟨?_, by simpa using hs⟩
      exact (Array.getElem?_eq_some_iff.1 hb).1
  · cases h
theorem add_add' (a : Addr) (i : Nat) (h : a.spot = none) : a.add i = ⟨a.block, a.off + i, none⟩ := by
  unfold Addr.add
  obtain ⟨b, o, s⟩ := a
  simp only at h
  subst h
  split
  · rename_i h0; subst h0; rfl
  · rfl

theorem dec_slice {P : Program} {t e n : Nat} {α : Type} [Inhabited α] {enc : α → List PV} {ok : α → Prop} (ht : P.underlying t = some (.slice e)) (hc : P.cellsOf t = 1) (hn : 0 < n) (h : Dec P e n enc ok) :
    Dec P t 1 (fun x : Sl α => [x.pv n enc]) (fun x => x.l.length ≤ 9223372036854775807 ∧ ∀ a ∈ x.l, ok a) := by
  obtain ⟨hce, hlen, hd⟩ := h
  refine ⟨hc, fun _ => rfl, fun H ec w fuel cs x hx => ?_⟩
  rcases Go.Deep.open_slice ht hx with ⟨rfl, _⟩ | ⟨a, len, cap, m, nn, D, Pl, rfl, hb, hl, hm, hmm, _, hel⟩
  · exact ⟨⟨none, [], fun _ => rfl⟩, ⟨by simp, by simp⟩, .one .nil⟩
  rw [hce] at hel
  simp only [if_true] at hmm
  subst hmm
  have hel' : ∀ i, i < len → ∃ (y : α × List Value), ok y.1 ∧ RepD w (enc y.1) y.2 ∧ ∀ j, j < n → w.cell? ((a.add (i * n)).add j) = y.2[j]? := fun i hi => by
    obtain ⟨cs', h1, h2⟩ := hel i (by omega)
    obtain ⟨_, _, h3⟩ := World.cells?_some h1
    obtain ⟨y, hy, hr⟩ := hd H ec w nn cs' _ h2
    exact ⟨(y, cs'), hy, hr, h3⟩
  obtain ⟨f, hf⟩ := Go.Deep.choose_lt hel'
  have hmax : maxLen = 9223372036854775807 := rfl
  refine ⟨⟨some false, (List.range len).map fun i => (f i).1, fun h => by cases h⟩, ⟨by simp; omega, fun y hy => ?_⟩, .one ?_⟩
  · obtain ⟨i, hi, rfl⟩ := List.mem_map.1 hy
    exact (hf i (List.mem_range.1 hi)).1
  have hget : ∀ i, i < len → (((List.range len).map fun i => (f i).1).map enc)[i]? = some (enc (f i).1) := fun i hi => by simp [hi]
  have hcell : ∀ i j, i < len → j < n → ∃ v, w.cell? ((a.add (i * n)).add j) = some v ∧ (f i).2[j]? = some v := fun i j hi hj => by
    obtain ⟨_, h2, h3⟩ := hf i hi
    have : j < (f i).2.length := by rw [h2.1, hlen]; exact hj
    exact ⟨_, by rw [h3 j hj]; exact List.getElem?_eq_getElem this, List.getElem?_eq_getElem this⟩
  have hsp : ∀ i j, i < len → j < n → a.spot = none ∧ (a.add (i * n)).add j = ⟨a.block, a.off + (i * n + j), none⟩ := fun i j hi hj => by
    have h0 : a.spot = none := by
      obtain ⟨v, hv, _⟩ := hcell 0 0 (by omega) hn
      simp only [Nat.zero_mul] at hv
      exact (cell_lt (a := (a.add 0).add 0) hv).2
    refine ⟨h0, ?_⟩
    rw [add_add' a _ h0, add_add' _ _ rfl, Nat.add_assoc]
  have e : len = (((List.range len).map fun i => (f i).1).map enc).length := by simp
  show RepP w (below w) (.sl n false (((List.range len).map fun i => (f i).1).map enc)) (.slice (some a) len m)
  have key := RepP.sl (w := w) (F := below w) n false (((List.range len).map fun i => (f i).1).map enc) a m (fun k => (f (k / n)).2.getD (k % n) undef) (by simpa using hl) (fun h => by cases h)
    (fun i y hy => by
      obtain ⟨z, _, rfl⟩ := List.mem_map.1 (List.mem_of_getElem? hy)
      exact hlen z)
    (fun k hk => by
      have hk' : k < len * n := by simpa using hk
      have hi : k / n < len := (Nat.div_lt_iff_lt_mul hn).2 hk'
      have hj : k % n < n := Nat.mod_lt _ hn
      have hkk : k / n * n + k % n = k := by rw [Nat.mul_comm]; exact Nat.div_add_mod k n
      obtain ⟨v, hv, hv2⟩ := hcell _ _ hi hj
      obtain ⟨h0, ha⟩ := hsp _ _ hi hj
      rw [ha, hkk] at hv
      refine ⟨h0, ?_, (cell_lt hv).1⟩
      rw [hv, List.getD, hv2]; rfl)
    (fun i j y c hy hc => by
      have hi : i < len := by
        have := (List.getElem?_eq_some_iff.1 hy).1
        simpa using this
      rw [hget i hi] at hy
      cases hy
      have hj : j < n := by rw [← hlen (f i).1]; exact (List.getElem?_eq_some_iff.1 hc).1
      have h1 : (i * n + j) / n = i := by rw [Nat.mul_comm, Nat.mul_add_div hn, Nat.div_eq_of_lt hj, Nat.add_zero]
      have h2 : (i * n + j) % n = j := by rw [Nat.mul_comm, Nat.mul_add_mod, Nat.mod_eq_of_lt hj]
      obtain ⟨v, _, hv2⟩ := hcell _ _ hi hj
      simp only [h1, h2, List.getD, hv2, Option.getD_some]
      exact (hf i hi).2.1.2 j c v hc hv2)
  rw [← e] at key
  exact key
/-- An argument, out of its cells. -/
theorem arg_agg {w : World} {l : List PV} {v : Value} {β : Nat → Nat} {H : Heap} {nx : Nat} (h : RepD w l v.cells.toList) (hl : l.length ≠ 1) : RepA w (below w) β H nx (aggP l) v := by
  obtain ⟨h1, h2⟩ := h
  cases v with
  | agg cs =>
    refine .agg _ _ (by simpa [Value.cells] using h1) fun j c x hc hx => ?_
    simp only [List.getElem?_map, Option.map_eq_some_iff] at hc
    obtain ⟨p, hp, rfl⟩ := hc
    exact .p p x (h2 j p x hp (by simpa [Value.cells] using hx))
  | _ => exact absurd (by simpa [Value.cells] using h1.symm) hl
theorem arg_one {w : World} {c : PV} {v : Value} {β : Nat → Nat} {H : Heap} {nx : Nat} (h : RepD w [c] v.cells.toList) (hv : ∃ a len cap, v = .slice a len cap) : RepA w (below w) β H nx (.c (.p c)) v := by
  obtain ⟨a, len, cap, rfl⟩ := hv
  exact .c _ _ (.p _ _ (h.2 0 _ _ rfl (by simp [Value.cells])))
end Go.Ab
end PSp20

section PSp21
/- Contracts, part 21: readings of properties, nodes, edges, ops, graphs. -/
set_option linter.unusedVariables false
set_option linter.unusedSimpArgs false
set_option maxRecDepth 10000
namespace Go.Ab
open Go.Proofs Go.ChangeShapes

def fld (nm : String) (t o b : Nat) : Field := { name := nm, type := t, offset := o, embedded := false, tag := "", pkgPath := "", byteOffset := b }
/-- A field's reading. -/
theorem field_dec {P : Program} {t : Nat} {n : Nat} {α : Type} {enc : α → List PV} {ok : α → Prop} (h : Dec P t n enc ok) {H : Type} {e : TypeId × Value → H} {w : World} {fuel o : Nat} {cs : List Value} {xs : List (DataW H × List MemPlace)} {i : Nat}
    (hx : DataW.trod e P w 0 (fun _ => true) true fuel t ((cs.drop o).take (P.cellsOf t)) = xs[i]?) (hi : i < xs.length) : ∃ a, ok a ∧ RepD w (enc a) ((cs.drop o).take n) := by
  rw [List.getElem?_eq_getElem hi] at hx
  have := h.2.2 H e w fuel _ _ hx
  rw [h.1] at this
  exact this

theorem decInt : Dec Try.prog t_int 1 (fun n : Int => [.int .i64 n]) (fun n => (Lit.int .i64 n).wf = true) := dec_int (by kernel_rfl) (by kernel_rfl)
theorem decStr : Dec Try.prog t_string 1 encS szS := dec_str (by kernel_rfl) (by kernel_rfl)
instance : Inhabited MVal := ⟨⟨0, 0, []⟩⟩
instance : Inhabited MProp := ⟨⟨[], default⟩⟩
instance {α : Type} : Inhabited (Sl α) := ⟨⟨none, [], fun _ => rfl⟩⟩
instance : Inhabited FNode := ⟨⟨[], default, default⟩⟩
instance : Inhabited FEdge := ⟨⟨[], [], [], default, default⟩⟩
instance : Inhabited MOp := ⟨⟨0, [], [], [], [], default⟩⟩
def okInt (n : Int) : Prop := (Lit.int .i64 n).wf = true
def okV (v : MVal) : Prop := okInt v.kind ∧ okInt v.num ∧ szS v.text
def okP (p : MProp) : Prop := szS p.key ∧ okV p.val
def okSl {α : Type} (ok : α → Prop) (x : Sl α) : Prop := x.l.length ≤ 9223372036854775807 ∧ ∀ a ∈ x.l, ok a
def okN (n : FNode) : Prop := szS n.id ∧ okSl szS n.labels ∧ okSl okP n.props
def okE (n : FEdge) : Prop := szS n.id ∧ szS n.src ∧ szS n.dst ∧ okSl szS n.labels ∧ okSl okP n.props
def okO (o : MOp) : Prop := okInt o.kind ∧ szS o.id ∧ szS o.src ∧ szS o.dst ∧ szS o.key ∧ okV o.val
def okG (g : FGraph) : Prop := okSl okN g.nodes ∧ okSl okE g.edges

theorem decV : Dec Try.prog t_api_Value 3 MVal.ps okV := by
  refine ⟨by kernel_rfl, fun _ => rfl, fun H e w fuel cs x h => ?_⟩
  obtain ⟨xs, n, _, _, hl, hs, hf⟩ := DataW.trod_struct (fs := #[fld "Kind" t_int 0 0, fld "Num" t_int 1 8, fld "Text" t_string 2 16]) (by kernel_rfl) h
  rw [show Try.prog.cellsOf t_api_Value = 3 by kernel_rfl] at hl
  simp only [List.size_toArray, List.length_cons, List.length_nil] at hs
  obtain ⟨a, ha, ra⟩ := field_dec decInt (hf 0 _ rfl) (by omega)
  obtain ⟨b, hb, rb⟩ := field_dec decInt (hf 1 _ rfl) (by omega)
  obtain ⟨c, hc, rc⟩ := field_dec decStr (hf 2 _ rfl) (by omega)
  exact ⟨⟨a, b, c⟩, ⟨ha, hb, hc⟩, ((ra.glue rb).glue rc).whole hl⟩
theorem decP : Dec Try.prog t_api_Prop 4 encP okP := by
  refine ⟨by kernel_rfl, fun _ => rfl, fun H e w fuel cs x h => ?_⟩
  obtain ⟨xs, n, _, _, hl, hs, hf⟩ := DataW.trod_struct (fs := #[fld "Key" t_string 0 0, fld "Value" t_api_Value 1 16]) (by kernel_rfl) h
  rw [show Try.prog.cellsOf t_api_Prop = 4 by kernel_rfl] at hl
  simp only [List.size_toArray, List.length_cons, List.length_nil] at hs
  obtain ⟨a, ha, ra⟩ := field_dec decStr (hf 0 _ rfl) (by omega)
  obtain ⟨b, hb, rb⟩ := field_dec decV (hf 1 _ rfl) (by omega)
  exact ⟨⟨a, b⟩, ⟨ha, hb⟩, (ra.glue rb).whole hl⟩
theorem decSS : Dec Try.prog t_s_string 1 (fun x : Sl Str => [x.pv 1 encS]) (okSl szS) := dec_slice (by kernel_rfl) (by kernel_rfl) (by decide) decStr
theorem decSP : Dec Try.prog t_s_api_Prop 1 (fun x : Sl MProp => [x.pv 4 encP]) (okSl okP) := dec_slice (by kernel_rfl) (by kernel_rfl) (by decide) decP
theorem decN : Dec Try.prog t_api_Node 3 encN okN := by
  refine ⟨by kernel_rfl, fun _ => rfl, fun H e w fuel cs x h => ?_⟩
  obtain ⟨xs, n, _, _, hl, hs, hf⟩ := DataW.trod_struct (fs := #[fld "Id" t_string 0 0, fld "Labels" t_s_string 1 16, fld "Props" t_s_api_Prop 2 40]) (by kernel_rfl) h
  rw [show Try.prog.cellsOf t_api_Node = 3 by kernel_rfl] at hl
  simp only [List.size_toArray, List.length_cons, List.length_nil] at hs
  obtain ⟨a, ha, ra⟩ := field_dec decStr (hf 0 _ rfl) (by omega)
  obtain ⟨b, hb, rb⟩ := field_dec decSS (hf 1 _ rfl) (by omega)
  obtain ⟨c, hc, rc⟩ := field_dec decSP (hf 2 _ rfl) (by omega)
  exact ⟨⟨a, b, c⟩, ⟨ha, hb, hc⟩, ((ra.glue rb).glue rc).whole hl⟩
theorem decE : Dec Try.prog t_api_Edge 5 encE okE := by
  refine ⟨by kernel_rfl, fun _ => rfl, fun H e w fuel cs x h => ?_⟩
  obtain ⟨xs, n, _, _, hl, hs, hf⟩ := DataW.trod_struct (fs := #[fld "Id" t_string 0 0, fld "From" t_string 1 16, fld "To" t_string 2 32, fld "Labels" t_s_string 3 48, fld "Props" t_s_api_Prop 4 72]) (by kernel_rfl) h
  rw [show Try.prog.cellsOf t_api_Edge = 5 by kernel_rfl] at hl
  simp only [List.size_toArray, List.length_cons, List.length_nil] at hs
  obtain ⟨a, ha, ra⟩ := field_dec decStr (hf 0 _ rfl) (by omega)
  obtain ⟨b, hb, rb⟩ := field_dec decStr (hf 1 _ rfl) (by omega)
  obtain ⟨c, hc, rc⟩ := field_dec decStr (hf 2 _ rfl) (by omega)
  obtain ⟨d, hd, rd⟩ := field_dec decSS (hf 3 _ rfl) (by omega)
  obtain ⟨f, hf', rf⟩ := field_dec decSP (hf 4 _ rfl) (by omega)
  exact ⟨⟨a, b, c, d, f⟩, ⟨ha, hb, hc, hd, hf'⟩, ((((ra.glue rb).glue rc).glue rd).glue rf).whole hl⟩
theorem decO : Dec Try.prog t_api_Op 8 encO okO := by
  refine ⟨by kernel_rfl, fun _ => rfl, fun H e w fuel cs x h => ?_⟩
  obtain ⟨xs, n, _, _, hl, hs, hf⟩ := DataW.trod_struct (fs := #[fld "Kind" t_int 0 0, fld "Id" t_string 1 8, fld "From" t_string 2 24, fld "To" t_string 3 40, fld "Key" t_string 4 56, fld "Value" t_api_Value 5 72]) (by kernel_rfl) h
  rw [show Try.prog.cellsOf t_api_Op = 8 by kernel_rfl] at hl
  simp only [List.size_toArray, List.length_cons, List.length_nil] at hs
  obtain ⟨a, ha, ra⟩ := field_dec decInt (hf 0 _ rfl) (by omega)
  obtain ⟨b, hb, rb⟩ := field_dec decStr (hf 1 _ rfl) (by omega)
  obtain ⟨c, hc, rc⟩ := field_dec decStr (hf 2 _ rfl) (by omega)
  obtain ⟨d, hd, rd⟩ := field_dec decStr (hf 3 _ rfl) (by omega)
  obtain ⟨f, hf', rf⟩ := field_dec decStr (hf 4 _ rfl) (by omega)
  obtain ⟨g, hg, rg⟩ := field_dec decV (hf 5 _ rfl) (by omega)
  exact ⟨⟨a, b, c, d, f, g⟩, ⟨ha, hb, hc, hd, hf', hg⟩, (((((ra.glue rb).glue rc).glue rd).glue rf).glue rg).whole hl⟩
theorem decSN : Dec Try.prog t_s_api_Node 1 (fun x : Sl FNode => [x.pv 3 encN]) (okSl okN) := dec_slice (by kernel_rfl) (by kernel_rfl) (by decide) decN
theorem decSE : Dec Try.prog t_s_api_Edge 1 (fun x : Sl FEdge => [x.pv 5 encE]) (okSl okE) := dec_slice (by kernel_rfl) (by kernel_rfl) (by decide) decE
theorem decSO : Dec Try.prog t_s_api_Op 1 (fun x : Sl MOp => [x.pv 8 encO]) (okSl okO) := dec_slice (by kernel_rfl) (by kernel_rfl) (by decide) decO
theorem decG : Dec Try.prog t_api_Graph 2 encG okG := by
  refine ⟨by kernel_rfl, fun _ => rfl, fun H e w fuel cs x h => ?_⟩
  obtain ⟨xs, n, _, _, hl, hs, hf⟩ := DataW.trod_struct (fs := #[fld "Nodes" t_s_api_Node 0 0, fld "Edges" t_s_api_Edge 1 24]) (by kernel_rfl) h
  rw [show Try.prog.cellsOf t_api_Graph = 2 by kernel_rfl] at hl
  simp only [List.size_toArray, List.length_cons, List.length_nil] at hs
  obtain ⟨a, ha, ra⟩ := field_dec decSN (hf 0 _ rfl) (by omega)
  obtain ⟨b, hb, rb⟩ := field_dec decSE (hf 1 _ rfl) (by omega)
  exact ⟨⟨a, b⟩, ⟨ha, hb⟩, (ra.glue rb).whole hl⟩
theorem okV.szS {v : MVal} (h : okV v) : Go.Ab.szS v.text := h.2.2
theorem okP.szP {p : MProp} (h : okP p) : Go.Ab.szP p := ⟨h.1, h.2.2.2⟩
theorem strG_of {g : FGraph} (h : okG g) : strG g :=
  ⟨fun n hn => ⟨(h.1.2 n hn).1, fun s hs => (h.1.2 n hn).2.1.2 s hs, fun p hp => ((h.1.2 n hn).2.2.2 p hp).szP⟩,
   fun n hn => ⟨(h.2.2 n hn).1, (h.2.2 n hn).2.1, (h.2.2 n hn).2.2.1, fun s hs => (h.2.2 n hn).2.2.2.1.2 s hs, fun p hp => ((h.2.2 n hn).2.2.2.2.2 p hp).szP⟩⟩
theorem szO_of {o : MOp} (h : okO o) : szO o := ⟨h.2.1, h.2.2.1, h.2.2.2.1, h.2.2.2.2.1, h.2.2.2.2.2.szS⟩

/-- What a call with pure arguments leaves: what the row asks. -/
theorem PCalls.row {P : Program} {f : Nat} {args : List AV} {r : AV} (h : PCalls P f args r) {w : World} {vals : Array Value} (hl : vals.size = args.length)
    (hv : ∀ (j : Nat) (a : AV) (v : Value), args[j]? = some a → vals[j]? = some v → RepA w (below w) id (fun _ => none) 0 a v) :
    Calls P f vals w fun e w' => ∃ v F', e = .returned v ∧ RepA w' F' id (fun _ => none) 0 r v ∧ Go.RowKit.Below w.heap.size w w' :=
  (h.2.2.2 w (below w) vals (fun b o h => h) hl hv).mono fun e w' ⟨v, F', he, hr, hx⟩ => ⟨v, F', he, hr, ⟨hx.os, hx.tape, hx.output, hx.size, hx.old⟩⟩
theorem vB_inv {w : World} {F : Imm} {b : Bool} {v : Value} (h : RepA w F id (fun _ => none) 0 (vB b) v) : v = .bool b := by
  cases h with
  | c _ _ h => cases h with
    | p _ _ h => cases h; rfl
end Go.Ab
end PSp21

section PSp22
/- Contracts, part 22: the row of a law, out of its contract. -/
set_option linter.unusedVariables false
set_option linter.unusedSimpArgs false
namespace Go.Ab
open Go.Proofs Go.ChangeShapes

theorem trodAll_below {H : Type} {enc : TypeId × Value → H} {P : Program} (hl : laidOutB P = true) {W W' : World} (hb : Go.RowKit.Below W.heap.size W W') :
    ∀ {ts : List TypeId} {vs : List Value} {ds : List (DataW H)} {ps : List MemPlace}, (∀ t ∈ ts, P.readableRec t = true ∧ t < P.types.size) → (∀ p ∈ ps, p.block < W.heap.size) →
      DataW.TrodAll enc P W 0 (fun _ => true) true ts vs ds ps → DataW.TrodAll enc P W' 0 (fun b => decide (b < W.heap.size)) true ts vs ds ps
  | [], vs, ds, ps, _, _, h => by
    obtain ⟨rfl, rfl, rfl⟩ := trodAll_nil h
    exact rfl
  | t :: ts, vs, ds, ps, ht, hp, h => by
    obtain ⟨v, vs, d, ds, p, q, rfl, rfl, rfl, h1, h2⟩ := trodAll_cons h
    exact ⟨p, q, Go.RowKit.Below.trod hl (ht t (by simp)).1 (ht t (by simp)).2 h1 hb (fun x hx => hp x (by simp [hx])), trodAll_below hl hb (fun t ht' => ht t (by simp [ht'])) (fun x hx => hp x (by simp [hx])) h2, rfl⟩

/-- A law's row: it answers true; the arguments read as they did. -/
theorem law_post {H : Type} {enc : TypeId × Value → H} {P : Program} (hl : laidOutB P = true) {f : Func} {s : ChangeSpec} {apart fresh handsOn : Bool} {W W' : World} {args : Array Value} {ds : List (DataW H)} {before : List MemPlace} {tb : Nat}
    (hv : s.vars = []) (hrt : f.resultTypes = #[tb]) (htb : P.underlying tb = some .bool) (hts : ∀ t ∈ f.params.toList, P.readableRec t = true ∧ t < P.types.size)
    (hW : DataW.Whole enc P f.params.toList s.vars apart W args.toList ds [] before) (hA : DataW.TrodAll enc P W 0 (fun _ => true) true f.params.toList args.toList ds before)
    (hs : (s.fn H ds).results = [.lit (.bool true)] ∧ (s.fn H ds).args = ds ∧ (s.fn H ds).vars = []) (hb : Go.RowKit.Below W.heap.size W W') :
    s.post enc P f apart fresh handsOn false W args (.bool true) W' := by
  have hlt : ∀ p ∈ before, p.block < W.heap.size := fun p hp => hW.lt p hp
  refine ⟨ds, [], before, [], before, [], hW, ?_, ?_, ?_, hb.frame _, fun h => by cases h⟩
  · rw [List.append_nil, hs.1, hrt]
    exact trodAll_mk1 (Go.RowKit.shut_bool htb true)
  · rw [List.append_nil, hs.2.1]
    exact trodAll_below hl hb hts hlt hA
  · rw [List.append_nil, hs.2.2, hv]
    rfl
end Go.Ab
end PSp22

section PSy
set_option maxRecDepth 100000
namespace Go.Ab
open Go.Proofs

/-! pleach/pleachlaw26.GraphStays -/
abbrev n_pleachlaw26_GraphStays : Nat := 4
def s_pleachlaw26_GraphStays : S :=
 (.seq (.ops [⟨none, some 3, .boxI (.t 0)⟩,
    ⟨none, some 5, .boxI (.t 2)⟩,
    ⟨none, some 6, .move (.k (.c (.p (.bool false))))⟩] [])
 (.seq (.seq (.ops [⟨none, some 16, .load true 2 (.t 3)⟩,
    ⟨none, some 17, .call 9 [(.t 16)]⟩,
    ⟨none, some 18, .un .not (.t 17)⟩,
    ⟨none, some 19, .move (.t 18)⟩,
    ⟨some (19, false), some 20, .move (.t 1)⟩,
    ⟨some (19, false), some 21, .call 11 [(.t 20)]⟩,
    ⟨some (19, false), some 22, .un .not (.t 21)⟩,
    ⟨none, some 23, .pick (.t 19) (.k (.c (.p (.bool true)))) (.t 22)⟩,
    ⟨none, some 24, .move (.t 23)⟩,
    ⟨some (24, false), some 25, .load true 8 (.t 5)⟩,
    ⟨some (24, false), some 26, .lit 8 [[.p (.int .i64 0), .p (.str []), .p (.str []), .p (.str []), .p (.str []), .p (.int .i64 0), .p (.int .i64 0), .p (.str [])]] [(0, (.t 25))]⟩,
    ⟨some (24, false), some 27, .call 11 [(.t 26)]⟩,
    ⟨some (24, false), some 28, .un .not (.t 27)⟩,
    ⟨none, some 29, .pick (.t 24) (.k (.c (.p (.bool true)))) (.t 28)⟩] [])
 (.cond (.t 29) (.seq (.ops [⟨none, some 30, .call 12 []⟩,
    ⟨none, some 6, .move (.t 30)⟩] [])
  .ret)
  .skip))
 (.seq (.ops [⟨none, some 32, .load true 2 (.t 3)⟩,
    ⟨none, some 33, .move (.t 1)⟩,
    ⟨none, some 34, .call 20 [(.t 32), (.t 33)]⟩,
    ⟨none, some 31, .move (.t 34)⟩,
    ⟨none, some 35, .extract (.t 31) 0⟩,
    ⟨none, some 36, .extract (.t 31) 1⟩,
    ⟨none, some 37, .extract (.t 31) 2⟩,
    ⟨none, some 7, .allocB 2 [[.p .nil, .p .nil]]⟩,
    ⟨none, none, .store 2 (.t 7) (.t 35)⟩,
    ⟨none, some 8, .move (.t 36)⟩,
    ⟨none, some 9, .move (.t 37)⟩] [.frz 7])
 (.seq (.seq (.ops [⟨none, some 38, .move (.t 9)⟩,
    ⟨none, some 39, .bin .neq (.t 38) (.k (.c (.p (.int .i64 0))))⟩] [])
 (.cond (.t 39) (.seq (.ops [⟨none, some 40, .call 12 []⟩,
    ⟨none, some 6, .move (.t 40)⟩] [])
  .ret)
  .skip))
 (.seq (.ops [⟨none, some 42, .load true 2 (.t 7)⟩,
    ⟨none, some 43, .load true 8 (.t 5)⟩,
    ⟨none, some 44, .lit 8 [[.p (.int .i64 0), .p (.str []), .p (.str []), .p (.str []), .p (.str []), .p (.int .i64 0), .p (.int .i64 0), .p (.str [])]] [(0, (.t 43))]⟩,
    ⟨none, some 45, .call 20 [(.t 42), (.t 44)]⟩,
    ⟨none, some 41, .move (.t 45)⟩,
    ⟨none, some 46, .extract (.t 41) 0⟩,
    ⟨none, some 47, .extract (.t 41) 1⟩,
    ⟨none, some 48, .extract (.t 41) 2⟩,
    ⟨none, some 10, .allocB 2 [[.p .nil, .p .nil]]⟩,
    ⟨none, none, .store 2 (.t 10) (.t 46)⟩,
    ⟨none, some 11, .move (.t 47)⟩,
    ⟨none, some 12, .move (.t 48)⟩] [.frz 10])
 (.seq (.draw [⟨none, some 50, .load true 2 (.t 3)⟩,
    ⟨none, some 51, .lit 8 [] []⟩,
    ⟨none, some 52, .move (.t 1)⟩,
    ⟨none, some 53, .append 8 104 (.t 51) (.t 52)⟩,
    ⟨none, some 54, .load true 8 (.t 5)⟩,
    ⟨none, some 55, .lit 8 [[.p (.int .i64 0), .p (.str []), .p (.str []), .p (.str []), .p (.str []), .p (.int .i64 0), .p (.int .i64 0), .p (.str [])]] [(0, (.t 54))]⟩,
    ⟨none, some 56, .append 8 104 (.t 53) (.t 55)⟩,
    ⟨none, some 57, .call 20 [(.t 50), (.t 56)]⟩,
    ⟨none, some 49, .move (.t 57)⟩,
    ⟨none, some 58, .extract (.t 49) 0⟩,
    ⟨none, some 59, .extract (.t 49) 1⟩,
    ⟨none, some 60, .extract (.t 49) 2⟩,
    ⟨none, some 13, .allocB 2 [[.p .nil, .p .nil]]⟩,
    ⟨none, none, .store 2 (.t 13) (.t 58)⟩,
    ⟨none, some 14, .move (.t 59)⟩,
    ⟨none, some 15, .move (.t 60)⟩]
 [0, 0, 0, 6, 0, 16, 62, 127, 255, 511, 511, 511, 0, 5119, 14335, 32767] [.frz 13])
 (.seq (.ops [⟨none, some 61, .load true 2 (.t 7)⟩,
    ⟨none, some 62, .call 21 [(.t 61)]⟩,
    ⟨none, some 63, .bin .eql (.t 62) (.k (.c (.p (.int .i64 0))))⟩,
    ⟨none, some 64, .move (.t 63)⟩,
    ⟨some (64, true), some 65, .load true 2 (.t 10)⟩,
    ⟨some (64, true), some 66, .load true 2 (.t 13)⟩,
    ⟨some (64, true), some 67, .call 22 [(.t 65), (.t 66)]⟩,
    ⟨none, some 68, .pick (.t 64) (.t 67) (.k (.c (.p (.bool false))))⟩,
    ⟨none, some 69, .move (.t 68)⟩,
    ⟨some (69, true), some 70, .move (.t 12)⟩,
    ⟨some (69, true), some 71, .move (.t 15)⟩,
    ⟨some (69, true), some 72, .bin .eql (.t 70) (.t 71)⟩,
    ⟨none, some 73, .pick (.t 69) (.t 72) (.k (.c (.p (.bool false))))⟩,
    ⟨none, some 74, .move (.t 73)⟩,
    ⟨some (74, true), some 75, .call 12 []⟩,
    ⟨none, some 76, .pick (.t 74) (.t 75) (.k (.c (.p (.bool false))))⟩,
    ⟨none, some 6, .move (.t 76)⟩] [])
 .ret)))))))
theorem c_pleachlaw26_GraphStays : comp Try.prog { own := [], mt := [], lp := [], gh := [(3, [.frz 7]), (6, [.frz 10]), (7, [.frz 13])] } 77 (Try.f4.body.getD .skip) = some s_pleachlaw26_GraphStays := by kernel_rfl
abbrev r_pleachlaw26_GraphStays : List RV := [.tmp 6]
theorem a_pleachlaw26_GraphStays {args : List AV} {H : List (Nat × Blk)} {nx : Nat} {K : AV → List (Nat × Blk) → Nat → Prop} (hal : args.length ≤ 77) (h : W Try.prog s_pleachlaw26_GraphStays (RETK r_pleachlaw26_GraphStays K) ⟨argE 0 args, H, nx⟩) : ACalls Try.prog 4 args H nx K :=
  acalls_of_W (drawOk mixed) Try.func4 rfl (by kernel_rfl) (of_decide_eq_true (by kernel_rfl)) (by kernel_rfl) c_pleachlaw26_GraphStays (by kernel_rfl) hal h
theorem p_pleachlaw26_GraphStays {args : List AV} {r : AV} (hal : args.length ≤ 77) (hp : args.all pureA = true) (hr : pureA r = true) (h : W Try.prog s_pleachlaw26_GraphStays (RETK r_pleachlaw26_GraphStays fun a H _ => FRZ r a H) ⟨argE 0 args, [], 0⟩) : PCalls Try.prog 4 args r := .of hp (a_pleachlaw26_GraphStays hal h) hr

/-! pleach/pleachlaw26.GraphChecks -/
abbrev n_pleachlaw26_GraphChecks : Nat := 5
def s_pleachlaw26_GraphChecks : S :=
 (.seq (.ops [⟨none, some 2, .boxI (.t 0)⟩,
    ⟨none, some 3, .boxI (.t 1)⟩,
    ⟨none, some 4, .move (.k (.c (.p (.bool false))))⟩] [])
 (.seq (.seq (.ops [⟨none, some 5, .load true 2 (.t 2)⟩,
    ⟨none, some 6, .call 9 [(.t 5)]⟩,
    ⟨none, some 7, .un .not (.t 6)⟩,
    ⟨none, some 8, .move (.t 7)⟩,
    ⟨some (8, false), some 9, .load true 2 (.t 3)⟩,
    ⟨some (8, false), some 10, .call 9 [(.t 9)]⟩,
    ⟨some (8, false), some 11, .un .not (.t 10)⟩,
    ⟨none, some 12, .pick (.t 8) (.k (.c (.p (.bool true)))) (.t 11)⟩] [])
 (.cond (.t 12) (.seq (.ops [⟨none, some 13, .call 12 []⟩,
    ⟨none, some 4, .move (.t 13)⟩] [])
  .ret)
  .skip))
 (.seq (.draw [⟨none, some 14, .load true 2 (.t 2)⟩,
    ⟨none, some 15, .call 21 [(.t 14)]⟩,
    ⟨none, some 16, .load true 2 (.t 2)⟩,
    ⟨none, some 17, .call 10 [(.t 16)]⟩,
    ⟨none, some 18, .bin .eql (.t 15) (.t 17)⟩,
    ⟨none, some 19, .move (.t 18)⟩,
    ⟨some (19, true), some 20, .load true 2 (.t 2)⟩,
    ⟨some (19, true), some 21, .call 23 [(.t 20)]⟩,
    ⟨some (19, true), some 22, .load true 2 (.t 2)⟩,
    ⟨some (19, true), some 23, .call 22 [(.t 21), (.t 22)]⟩,
    ⟨none, some 24, .pick (.t 19) (.t 23) (.k (.c (.p (.bool false))))⟩,
    ⟨none, some 25, .move (.t 24)⟩,
    ⟨some (25, true), some 26, .load true 2 (.t 2)⟩,
    ⟨some (25, true), some 27, .load true 2 (.t 3)⟩,
    ⟨some (25, true), some 28, .call 24 [(.t 26), (.t 27)]⟩,
    ⟨some (25, true), some 29, .load true 2 (.t 2)⟩,
    ⟨some (25, true), some 30, .load true 2 (.t 3)⟩,
    ⟨some (25, true), some 31, .call 22 [(.t 29), (.t 30)]⟩,
    ⟨some (25, true), some 32, .eqB false (.t 28) (.t 31)⟩,
    ⟨none, some 33, .pick (.t 25) (.t 32) (.k (.c (.p (.bool false))))⟩,
    ⟨none, some 34, .move (.t 33)⟩,
    ⟨some (34, true), some 35, .load true 2 (.t 2)⟩,
    ⟨some (34, true), some 36, .load true 2 (.t 2)⟩,
    ⟨some (34, true), some 37, .call 24 [(.t 35), (.t 36)]⟩,
    ⟨none, some 38, .pick (.t 34) (.t 37) (.k (.c (.p (.bool false))))⟩,
    ⟨none, some 39, .move (.t 38)⟩,
    ⟨some (39, true), some 40, .call 12 []⟩,
    ⟨none, some 41, .pick (.t 39) (.t 40) (.k (.c (.p (.bool false))))⟩,
    ⟨none, some 4, .move (.t 41)⟩]
 [0, 1, 0, 7, 15, 31, 63, 127, 63, 511, 1023, 2047, 4095, 4095, 16383, 4095, 4095, 131071, 262143, 524287, 1048575, 2097151, 2097151, 8388607, 16777215, 33554431, 67108863, 134217727, 268435455] [])
 .ret)))
theorem c_pleachlaw26_GraphChecks : comp Try.prog { own := [], mt := [], lp := [], gh := [] } 42 (Try.f5.body.getD .skip) = some s_pleachlaw26_GraphChecks := by kernel_rfl
abbrev r_pleachlaw26_GraphChecks : List RV := [.tmp 4]
theorem a_pleachlaw26_GraphChecks {args : List AV} {H : List (Nat × Blk)} {nx : Nat} {K : AV → List (Nat × Blk) → Nat → Prop} (hal : args.length ≤ 42) (h : W Try.prog s_pleachlaw26_GraphChecks (RETK r_pleachlaw26_GraphChecks K) ⟨argE 0 args, H, nx⟩) : ACalls Try.prog 5 args H nx K :=
  acalls_of_W (drawOk mixed) Try.func5 rfl (by kernel_rfl) (of_decide_eq_true (by kernel_rfl)) (by kernel_rfl) c_pleachlaw26_GraphChecks (by kernel_rfl) hal h
theorem p_pleachlaw26_GraphChecks {args : List AV} {r : AV} (hal : args.length ≤ 42) (hp : args.all pureA = true) (hr : pureA r = true) (h : W Try.prog s_pleachlaw26_GraphChecks (RETK r_pleachlaw26_GraphChecks fun a H _ => FRZ r a H) ⟨argE 0 args, [], 0⟩) : PCalls Try.prog 5 args r := .of hp (a_pleachlaw26_GraphChecks hal h) hr

/-! pleach/pleachref26.Same -/
abbrev n_pleachref26_Same : Nat := 22
def b_pleachref26_Same_0 : S :=
 (.seq (.seq (.ops [⟨none, some 23, .move (.t 5)⟩,
    ⟨none, some 24, .fieldA 0 1 (.t 2)⟩,
    ⟨none, some 25, .load false 1 (.t 24)⟩,
    ⟨none, some 26, .len (.t 25)⟩,
    ⟨none, some 27, .bin .lss (.t 23) (.t 26)⟩] [])
 (.cond (.t 27) .skip
  (.exit 0)))
 (.seq (.block 1 (.seq (.draw [⟨none, some 30, .fieldA 0 1 (.t 2)⟩,
    ⟨none, some 31, .load false 1 (.t 30)⟩,
    ⟨none, some 32, .move (.t 5)⟩,
    ⟨none, some 33, .idxA 3 (.t 31) (.t 32)⟩,
    ⟨none, some 34, .load true 3 (.t 33)⟩,
    ⟨none, some 35, .fieldA 0 1 (.t 3)⟩,
    ⟨none, some 36, .load false 1 (.t 35)⟩,
    ⟨none, some 37, .move (.t 5)⟩,
    ⟨none, some 38, .idxA 3 (.t 36) (.t 37)⟩,
    ⟨none, some 39, .load true 3 (.t 38)⟩,
    ⟨none, some 40, .call 63 [(.t 34), (.t 39)]⟩,
    ⟨none, some 41, .un .not (.t 40)⟩]
  [0, 1, 0, 7, 15, 0, 32, 0, 224, 480, 1023, 2047] [])
  (.cond (.t 41) (.seq (.ops [⟨none, some 4, .move (.k (.c (.p (.bool false))))⟩] [])
   .ret)
   .skip)))
 (.ops [⟨none, some 28, .move (.t 5)⟩,
    ⟨none, some 29, .bin .add (.t 28) (.k (.c (.p (.int .i64 1))))⟩,
    ⟨none, some 5, .move (.t 29)⟩] [])))
def b_pleachref26_Same_2 : S :=
 (.seq (.seq (.ops [⟨none, some 42, .move (.t 6)⟩,
    ⟨none, some 43, .fieldA 1 1 (.t 2)⟩,
    ⟨none, some 44, .load false 1 (.t 43)⟩,
    ⟨none, some 45, .len (.t 44)⟩,
    ⟨none, some 46, .bin .lss (.t 42) (.t 45)⟩] [])
 (.cond (.t 46) .skip
  (.exit 2)))
 (.seq (.block 3 (.seq (.draw [⟨none, some 49, .fieldA 1 1 (.t 2)⟩,
    ⟨none, some 50, .load false 1 (.t 49)⟩,
    ⟨none, some 51, .move (.t 6)⟩,
    ⟨none, some 52, .idxA 5 (.t 50) (.t 51)⟩,
    ⟨none, some 53, .load true 5 (.t 52)⟩,
    ⟨none, some 54, .fieldA 1 1 (.t 3)⟩,
    ⟨none, some 55, .load false 1 (.t 54)⟩,
    ⟨none, some 56, .move (.t 6)⟩,
    ⟨none, some 57, .idxA 5 (.t 55) (.t 56)⟩,
    ⟨none, some 58, .load true 5 (.t 57)⟩,
    ⟨none, some 59, .call 64 [(.t 53), (.t 58)]⟩,
    ⟨none, some 60, .un .not (.t 59)⟩]
  [0, 1, 0, 7, 15, 0, 32, 0, 224, 480, 1023, 2047] [])
  (.cond (.t 60) (.seq (.ops [⟨none, some 4, .move (.k (.c (.p (.bool false))))⟩] [])
   .ret)
   .skip)))
 (.ops [⟨none, some 47, .move (.t 6)⟩,
    ⟨none, some 48, .bin .add (.t 47) (.k (.c (.p (.int .i64 1))))⟩,
    ⟨none, some 6, .move (.t 48)⟩] [])))
def s_pleachref26_Same : S :=
 (.seq (.ops [⟨none, some 2, .boxI (.t 0)⟩,
    ⟨none, some 3, .boxI (.t 1)⟩,
    ⟨none, some 4, .move (.k (.c (.p (.bool false))))⟩] [])
 (.seq (.seq (.ops [⟨none, some 7, .fieldA 0 1 (.t 2)⟩,
    ⟨none, some 8, .load false 1 (.t 7)⟩,
    ⟨none, some 9, .len (.t 8)⟩,
    ⟨none, some 10, .fieldA 0 1 (.t 3)⟩,
    ⟨none, some 11, .load false 1 (.t 10)⟩,
    ⟨none, some 12, .len (.t 11)⟩,
    ⟨none, some 13, .bin .neq (.t 9) (.t 12)⟩,
    ⟨none, some 14, .move (.t 13)⟩,
    ⟨some (14, false), some 15, .fieldA 1 1 (.t 2)⟩,
    ⟨some (14, false), some 16, .load false 1 (.t 15)⟩,
    ⟨some (14, false), some 17, .len (.t 16)⟩,
    ⟨some (14, false), some 18, .fieldA 1 1 (.t 3)⟩,
    ⟨some (14, false), some 19, .load false 1 (.t 18)⟩,
    ⟨some (14, false), some 20, .len (.t 19)⟩,
    ⟨some (14, false), some 21, .bin .neq (.t 17) (.t 20)⟩,
    ⟨none, some 22, .pick (.t 14) (.k (.c (.p (.bool true)))) (.t 21)⟩] [])
 (.cond (.t 22) (.seq (.ops [⟨none, some 4, .move (.k (.c (.p (.bool false))))⟩] [])
  .ret)
  .skip))
 (.seq (.seq (.ops [⟨none, some 5, .move (.k (.c (.p (.int .i64 0))))⟩] [])
 (.block 0 (.loop [2, 3, 5] b_pleachref26_Same_0)))
 (.seq (.seq (.ops [⟨none, some 6, .move (.k (.c (.p (.int .i64 0))))⟩] [])
 (.block 2 (.loop [2, 3, 6] b_pleachref26_Same_2)))
 (.seq (.ops [⟨none, some 4, .move (.k (.c (.p (.bool true))))⟩] [])
 .ret)))))
theorem c_pleachref26_Same : comp Try.prog { own := [], mt := [], lp := [(0, [2, 3, 5]), (2, [2, 3, 6])], gh := [] } 61 (Try.f22.body.getD .skip) = some s_pleachref26_Same := by kernel_rfl
abbrev r_pleachref26_Same : List RV := [.tmp 4]
theorem a_pleachref26_Same {args : List AV} {H : List (Nat × Blk)} {nx : Nat} {K : AV → List (Nat × Blk) → Nat → Prop} (hal : args.length ≤ 61) (h : W Try.prog s_pleachref26_Same (RETK r_pleachref26_Same K) ⟨argE 0 args, H, nx⟩) : ACalls Try.prog 22 args H nx K :=
  acalls_of_W (drawOk mixed) Try.func22 rfl (by kernel_rfl) (of_decide_eq_true (by kernel_rfl)) (by kernel_rfl) c_pleachref26_Same (by kernel_rfl) hal h
theorem p_pleachref26_Same {args : List AV} {r : AV} (hal : args.length ≤ 61) (hp : args.all pureA = true) (hr : pureA r = true) (h : W Try.prog s_pleachref26_Same (RETK r_pleachref26_Same fun a H _ => FRZ r a H) ⟨argE 0 args, [], 0⟩) : PCalls Try.prog 22 args r := .of hp (a_pleachref26_Same hal h) hr

/-! pleach/graph.Same -/
abbrev n_graph_Same : Nat := 24
def s_graph_Same : S :=
 (.seq (.ops [⟨none, some 2, .boxI (.t 0)⟩,
    ⟨none, some 3, .boxI (.t 1)⟩,
    ⟨none, some 4, .move (.k (.c (.p (.bool false))))⟩] [])
 (.seq (.ops [⟨none, some 6, .fieldA 0 1 (.t 2)⟩,
    ⟨none, some 7, .load false 1 (.t 6)⟩,
    ⟨none, some 8, .fieldA 0 1 (.t 3)⟩,
    ⟨none, some 9, .load false 1 (.t 8)⟩,
    ⟨none, some 10, .call 67 [(.t 7), (.t 9), (.k (.c (.p (.fn 68 []))))]⟩,
    ⟨none, some 5, .move (.t 10)⟩] [])
 (.seq (.ops [⟨none, some 11, .move (.t 5)⟩,
    ⟨none, some 12, .move (.t 11)⟩,
    ⟨some (12, true), some 13, .fieldA 1 1 (.t 2)⟩,
    ⟨some (12, true), some 14, .load false 1 (.t 13)⟩,
    ⟨some (12, true), some 15, .fieldA 1 1 (.t 3)⟩,
    ⟨some (12, true), some 16, .load false 1 (.t 15)⟩,
    ⟨some (12, true), some 17, .call 71 [(.t 14), (.t 16), (.k (.c (.p (.fn 72 []))))]⟩,
    ⟨none, some 18, .pick (.t 12) (.t 17) (.k (.c (.p (.bool false))))⟩,
    ⟨none, some 4, .move (.t 18)⟩] [])
 .ret)))
theorem c_graph_Same : comp Try.prog { own := [], mt := [], lp := [], gh := [] } 19 (Try.f24.body.getD .skip) = some s_graph_Same := by kernel_rfl
abbrev r_graph_Same : List RV := [.tmp 4]
theorem a_graph_Same {args : List AV} {H : List (Nat × Blk)} {nx : Nat} {K : AV → List (Nat × Blk) → Nat → Prop} (hal : args.length ≤ 19) (h : W Try.prog s_graph_Same (RETK r_graph_Same K) ⟨argE 0 args, H, nx⟩) : ACalls Try.prog 24 args H nx K :=
  acalls_of_W (drawOk mixed) Try.func24 rfl (by kernel_rfl) (of_decide_eq_true (by kernel_rfl)) (by kernel_rfl) c_graph_Same (by kernel_rfl) hal h
theorem p_graph_Same {args : List AV} {r : AV} (hal : args.length ≤ 19) (hp : args.all pureA = true) (hr : pureA r = true) (h : W Try.prog s_graph_Same (RETK r_graph_Same fun a H _ => FRZ r a H) ⟨argE 0 args, [], 0⟩) : PCalls Try.prog 24 args r := .of hp (a_graph_Same hal h) hr

/-! pleach/pleachref25.SameNode -/
abbrev n_pleachref25_SameNode : Nat := 63
def s_pleachref25_SameNode : S :=
 (.seq (.ops [⟨none, some 2, .boxI (.t 0)⟩,
    ⟨none, some 3, .boxI (.t 1)⟩,
    ⟨none, some 4, .move (.k (.c (.p (.bool false))))⟩] [])
 (.seq (.ops [⟨none, some 5, .fieldA 0 1 (.t 2)⟩,
    ⟨none, some 6, .load false 1 (.t 5)⟩,
    ⟨none, some 7, .fieldA 0 1 (.t 3)⟩,
    ⟨none, some 8, .load false 1 (.t 7)⟩,
    ⟨none, some 9, .bin .eql (.t 6) (.t 8)⟩,
    ⟨none, some 10, .move (.t 9)⟩,
    ⟨some (10, true), some 11, .fieldA 1 1 (.t 2)⟩,
    ⟨some (10, true), some 12, .load false 1 (.t 11)⟩,
    ⟨some (10, true), some 13, .fieldA 1 1 (.t 3)⟩,
    ⟨some (10, true), some 14, .load false 1 (.t 13)⟩,
    ⟨some (10, true), some 15, .call 18 [(.t 12), (.t 14)]⟩,
    ⟨none, some 16, .pick (.t 10) (.t 15) (.k (.c (.p (.bool false))))⟩,
    ⟨none, some 17, .move (.t 16)⟩,
    ⟨some (17, true), some 18, .fieldA 2 1 (.t 2)⟩,
    ⟨some (17, true), some 19, .load false 1 (.t 18)⟩,
    ⟨some (17, true), some 20, .fieldA 2 1 (.t 3)⟩,
    ⟨some (17, true), some 21, .load false 1 (.t 20)⟩,
    ⟨some (17, true), some 22, .call 19 [(.t 19), (.t 21)]⟩,
    ⟨none, some 23, .pick (.t 17) (.t 22) (.k (.c (.p (.bool false))))⟩,
    ⟨none, some 4, .move (.t 23)⟩] [])
 .ret))
theorem c_pleachref25_SameNode : comp Try.prog { own := [], mt := [], lp := [], gh := [] } 24 (Try.f63.body.getD .skip) = some s_pleachref25_SameNode := by kernel_rfl
abbrev r_pleachref25_SameNode : List RV := [.tmp 4]
theorem a_pleachref25_SameNode {args : List AV} {H : List (Nat × Blk)} {nx : Nat} {K : AV → List (Nat × Blk) → Nat → Prop} (hal : args.length ≤ 24) (h : W Try.prog s_pleachref25_SameNode (RETK r_pleachref25_SameNode K) ⟨argE 0 args, H, nx⟩) : ACalls Try.prog 63 args H nx K :=
  acalls_of_W (drawOk mixed) Try.func63 rfl (by kernel_rfl) (of_decide_eq_true (by kernel_rfl)) (by kernel_rfl) c_pleachref25_SameNode (by kernel_rfl) hal h
theorem p_pleachref25_SameNode {args : List AV} {r : AV} (hal : args.length ≤ 24) (hp : args.all pureA = true) (hr : pureA r = true) (h : W Try.prog s_pleachref25_SameNode (RETK r_pleachref25_SameNode fun a H _ => FRZ r a H) ⟨argE 0 args, [], 0⟩) : PCalls Try.prog 63 args r := .of hp (a_pleachref25_SameNode hal h) hr

/-! pleach/pleachref25.SameEdge -/
abbrev n_pleachref25_SameEdge : Nat := 64
def s_pleachref25_SameEdge : S :=
 (.seq (.ops [⟨none, some 2, .boxI (.t 0)⟩,
    ⟨none, some 3, .boxI (.t 1)⟩,
    ⟨none, some 4, .move (.k (.c (.p (.bool false))))⟩] [])
 (.seq (.ops [⟨none, some 5, .fieldA 0 1 (.t 2)⟩,
    ⟨none, some 6, .load false 1 (.t 5)⟩,
    ⟨none, some 7, .fieldA 0 1 (.t 3)⟩,
    ⟨none, some 8, .load false 1 (.t 7)⟩,
    ⟨none, some 9, .bin .eql (.t 6) (.t 8)⟩,
    ⟨none, some 10, .move (.t 9)⟩,
    ⟨some (10, true), some 11, .fieldA 1 1 (.t 2)⟩,
    ⟨some (10, true), some 12, .load false 1 (.t 11)⟩,
    ⟨some (10, true), some 13, .fieldA 1 1 (.t 3)⟩,
    ⟨some (10, true), some 14, .load false 1 (.t 13)⟩,
    ⟨some (10, true), some 15, .bin .eql (.t 12) (.t 14)⟩,
    ⟨none, some 16, .pick (.t 10) (.t 15) (.k (.c (.p (.bool false))))⟩,
    ⟨none, some 17, .move (.t 16)⟩,
    ⟨some (17, true), some 18, .fieldA 2 1 (.t 2)⟩,
    ⟨some (17, true), some 19, .load false 1 (.t 18)⟩,
    ⟨some (17, true), some 20, .fieldA 2 1 (.t 3)⟩,
    ⟨some (17, true), some 21, .load false 1 (.t 20)⟩,
    ⟨some (17, true), some 22, .bin .eql (.t 19) (.t 21)⟩,
    ⟨none, some 23, .pick (.t 17) (.t 22) (.k (.c (.p (.bool false))))⟩,
    ⟨none, some 24, .move (.t 23)⟩,
    ⟨some (24, true), some 25, .fieldA 3 1 (.t 2)⟩,
    ⟨some (24, true), some 26, .load false 1 (.t 25)⟩,
    ⟨some (24, true), some 27, .fieldA 3 1 (.t 3)⟩,
    ⟨some (24, true), some 28, .load false 1 (.t 27)⟩,
    ⟨some (24, true), some 29, .call 18 [(.t 26), (.t 28)]⟩,
    ⟨none, some 30, .pick (.t 24) (.t 29) (.k (.c (.p (.bool false))))⟩,
    ⟨none, some 31, .move (.t 30)⟩,
    ⟨some (31, true), some 32, .fieldA 4 1 (.t 2)⟩,
    ⟨some (31, true), some 33, .load false 1 (.t 32)⟩,
    ⟨some (31, true), some 34, .fieldA 4 1 (.t 3)⟩,
    ⟨some (31, true), some 35, .load false 1 (.t 34)⟩,
    ⟨some (31, true), some 36, .call 19 [(.t 33), (.t 35)]⟩,
    ⟨none, some 37, .pick (.t 31) (.t 36) (.k (.c (.p (.bool false))))⟩,
    ⟨none, some 4, .move (.t 37)⟩] [])
 .ret))
theorem c_pleachref25_SameEdge : comp Try.prog { own := [], mt := [], lp := [], gh := [] } 38 (Try.f64.body.getD .skip) = some s_pleachref25_SameEdge := by kernel_rfl
abbrev r_pleachref25_SameEdge : List RV := [.tmp 4]
theorem a_pleachref25_SameEdge {args : List AV} {H : List (Nat × Blk)} {nx : Nat} {K : AV → List (Nat × Blk) → Nat → Prop} (hal : args.length ≤ 38) (h : W Try.prog s_pleachref25_SameEdge (RETK r_pleachref25_SameEdge K) ⟨argE 0 args, H, nx⟩) : ACalls Try.prog 64 args H nx K :=
  acalls_of_W (drawOk mixed) Try.func64 rfl (by kernel_rfl) (of_decide_eq_true (by kernel_rfl)) (by kernel_rfl) c_pleachref25_SameEdge (by kernel_rfl) hal h
theorem p_pleachref25_SameEdge {args : List AV} {r : AV} (hal : args.length ≤ 38) (hp : args.all pureA = true) (hr : pureA r = true) (h : W Try.prog s_pleachref25_SameEdge (RETK r_pleachref25_SameEdge fun a H _ => FRZ r a H) ⟨argE 0 args, [], 0⟩) : PCalls Try.prog 64 args r := .of hp (a_pleachref25_SameEdge hal h) hr

/-! slices.EqualFunc[[]pleach/api.Node,[]pleach/api.Node,pleach/api.Node,pleach/api.Node] -/
abbrev n_slices_EqualFunc_api_Node_api_Node_api_Node_api_Node : Nat := 67
def b_slices_EqualFunc_api_Node_api_Node_api_Node_api_Node_0 : S :=
 (.seq (.ops [⟨none, some 18, .bin .lss (.t 17) (.t 16)⟩] [])
 (.seq (.cond (.t 18) .skip
  (.exit 0))
 (.seq (.block 1 (.seq (.ops [⟨none, some 19, .move (.t 17)⟩,
    ⟨none, some 20, .idxA 3 (.t 15) (.t 17)⟩,
    ⟨none, some 21, .load true 3 (.t 20)⟩,
    ⟨none, some 8, .allocB 3 [[.p (.str []), .p .nil, .p .nil]]⟩,
    ⟨none, some 7, .move (.t 19)⟩,
    ⟨none, none, .store 3 (.t 8) (.t 21)⟩] [.frz 8])
  (.seq (.ops [⟨none, some 22, .move (.t 1)⟩,
    ⟨none, some 23, .move (.t 7)⟩,
    ⟨none, some 24, .idxA 3 (.t 22) (.t 23)⟩,
    ⟨none, some 25, .load true 3 (.t 24)⟩,
    ⟨none, some 9, .allocB 3 [[.p (.str []), .p .nil, .p .nil]]⟩,
    ⟨none, none, .store 3 (.t 9) (.t 25)⟩] [.frz 9])
  (.seq (.ops [⟨none, some 26, .move (.t 2)⟩,
    ⟨none, some 27, .load true 3 (.t 8)⟩,
    ⟨none, some 28, .load true 3 (.t 9)⟩,
    ⟨none, some 29, .callv (.t 26) [(.t 27), (.t 28)]⟩,
    ⟨none, some 30, .un .not (.t 29)⟩] [])
  (.cond (.t 30) (.seq (.ops [⟨none, some 6, .move (.k (.c (.p (.bool false))))⟩] [])
   .ret)
   .skip)))))
 (.ops [⟨none, some 31, .bin .add (.t 17) (.k (.c (.p (.int .i64 1))))⟩,
    ⟨none, some 17, .move (.t 31)⟩] []))))
def s_slices_EqualFunc_api_Node_api_Node_api_Node_api_Node : S :=
 (.seq (.ops [⟨none, some 6, .move (.k (.c (.p (.bool false))))⟩] [])
 (.seq (.seq (.ops [⟨none, some 10, .move (.t 0)⟩,
    ⟨none, some 11, .len (.t 10)⟩,
    ⟨none, some 12, .move (.t 1)⟩,
    ⟨none, some 13, .len (.t 12)⟩,
    ⟨none, some 14, .bin .neq (.t 11) (.t 13)⟩] [])
 (.cond (.t 14) (.seq (.ops [⟨none, some 6, .move (.k (.c (.p (.bool false))))⟩] [])
  .ret)
  .skip))
 (.seq (.seq (.ops [⟨none, some 15, .move (.t 0)⟩,
    ⟨none, some 16, .len (.t 15)⟩,
    ⟨none, some 17, .move (.k (.c (.p (.int .i64 0))))⟩] [])
 (.block 0 (.loop [1, 2, 15, 16, 17] b_slices_EqualFunc_api_Node_api_Node_api_Node_api_Node_0)))
 (.seq (.ops [⟨none, some 6, .move (.k (.c (.p (.bool true))))⟩] [])
 .ret))))
theorem c_slices_EqualFunc_api_Node_api_Node_api_Node_api_Node : comp Try.prog { own := [], mt := [], lp := [(0, [1, 2, 15, 16, 17])], gh := [(5, [.frz 8]), (6, [.frz 9])] } 32 (Try.f67.body.getD .skip) = some s_slices_EqualFunc_api_Node_api_Node_api_Node_api_Node := by kernel_rfl
abbrev r_slices_EqualFunc_api_Node_api_Node_api_Node_api_Node : List RV := [.tmp 6]
theorem a_slices_EqualFunc_api_Node_api_Node_api_Node_api_Node {args : List AV} {H : List (Nat × Blk)} {nx : Nat} {K : AV → List (Nat × Blk) → Nat → Prop} (hal : args.length ≤ 32) (h : W Try.prog s_slices_EqualFunc_api_Node_api_Node_api_Node_api_Node (RETK r_slices_EqualFunc_api_Node_api_Node_api_Node_api_Node K) ⟨argE 0 args, H, nx⟩) : ACalls Try.prog 67 args H nx K :=
  acalls_of_W (drawOk mixed) Try.func67 rfl (by kernel_rfl) (of_decide_eq_true (by kernel_rfl)) (by kernel_rfl) c_slices_EqualFunc_api_Node_api_Node_api_Node_api_Node (by kernel_rfl) hal h
theorem p_slices_EqualFunc_api_Node_api_Node_api_Node_api_Node {args : List AV} {r : AV} (hal : args.length ≤ 32) (hp : args.all pureA = true) (hr : pureA r = true) (h : W Try.prog s_slices_EqualFunc_api_Node_api_Node_api_Node_api_Node (RETK r_slices_EqualFunc_api_Node_api_Node_api_Node_api_Node fun a H _ => FRZ r a H) ⟨argE 0 args, [], 0⟩) : PCalls Try.prog 67 args r := .of hp (a_slices_EqualFunc_api_Node_api_Node_api_Node_api_Node hal h) hr

/-! pleach/graph.Same$1 -/
abbrev n_graph_Same_1 : Nat := 68
def s_graph_Same_1 : S :=
 (.seq (.ops [⟨none, some 2, .boxI (.t 0)⟩,
    ⟨none, some 3, .boxI (.t 1)⟩,
    ⟨none, some 4, .move (.k (.c (.p (.bool false))))⟩] [])
 (.seq (.ops [⟨none, some 5, .fieldA 0 1 (.t 2)⟩,
    ⟨none, some 6, .load false 1 (.t 5)⟩,
    ⟨none, some 7, .fieldA 0 1 (.t 3)⟩,
    ⟨none, some 8, .load false 1 (.t 7)⟩,
    ⟨none, some 9, .bin .eql (.t 6) (.t 8)⟩,
    ⟨none, some 10, .move (.t 9)⟩,
    ⟨some (10, true), some 11, .fieldA 1 1 (.t 2)⟩,
    ⟨some (10, true), some 12, .load false 1 (.t 11)⟩,
    ⟨some (10, true), some 13, .fieldA 1 1 (.t 3)⟩,
    ⟨some (10, true), some 14, .load false 1 (.t 13)⟩,
    ⟨some (10, true), some 15, .call 69 [(.t 12), (.t 14)]⟩,
    ⟨none, some 16, .pick (.t 10) (.t 15) (.k (.c (.p (.bool false))))⟩,
    ⟨none, some 17, .move (.t 16)⟩,
    ⟨some (17, true), some 18, .fieldA 2 1 (.t 2)⟩,
    ⟨some (17, true), some 19, .load false 1 (.t 18)⟩,
    ⟨some (17, true), some 20, .fieldA 2 1 (.t 3)⟩,
    ⟨some (17, true), some 21, .load false 1 (.t 20)⟩,
    ⟨some (17, true), some 22, .call 70 [(.t 19), (.t 21)]⟩,
    ⟨none, some 23, .pick (.t 17) (.t 22) (.k (.c (.p (.bool false))))⟩,
    ⟨none, some 4, .move (.t 23)⟩] [])
 .ret))
theorem c_graph_Same_1 : comp Try.prog { own := [], mt := [], lp := [], gh := [] } 24 (Try.f68.body.getD .skip) = some s_graph_Same_1 := by kernel_rfl
abbrev r_graph_Same_1 : List RV := [.tmp 4]
theorem a_graph_Same_1 {args : List AV} {H : List (Nat × Blk)} {nx : Nat} {K : AV → List (Nat × Blk) → Nat → Prop} (hal : args.length ≤ 24) (h : W Try.prog s_graph_Same_1 (RETK r_graph_Same_1 K) ⟨argE 0 args, H, nx⟩) : ACalls Try.prog 68 args H nx K :=
  acalls_of_W (drawOk mixed) Try.func68 rfl (by kernel_rfl) (of_decide_eq_true (by kernel_rfl)) (by kernel_rfl) c_graph_Same_1 (by kernel_rfl) hal h
theorem p_graph_Same_1 {args : List AV} {r : AV} (hal : args.length ≤ 24) (hp : args.all pureA = true) (hr : pureA r = true) (h : W Try.prog s_graph_Same_1 (RETK r_graph_Same_1 fun a H _ => FRZ r a H) ⟨argE 0 args, [], 0⟩) : PCalls Try.prog 68 args r := .of hp (a_graph_Same_1 hal h) hr

/-! slices.Equal[[]string,string] -/
abbrev n_slices_Equal_string_string : Nat := 69
def b_slices_Equal_string_string_0 : S :=
 (.seq (.ops [⟨none, some 14, .bin .lss (.t 13) (.t 12)⟩] [])
 (.seq (.cond (.t 14) .skip
  (.exit 0))
 (.seq (.block 1 (.seq (.ops [⟨none, some 15, .move (.t 13)⟩,
    ⟨none, some 5, .move (.t 15)⟩] [])
  (.seq (.draw [⟨none, some 16, .move (.t 0)⟩,
    ⟨none, some 17, .move (.t 5)⟩,
    ⟨none, some 18, .idxA 1 (.t 16) (.t 17)⟩,
    ⟨none, some 19, .load false 1 (.t 18)⟩,
    ⟨none, some 20, .move (.t 1)⟩,
    ⟨none, some 21, .move (.t 5)⟩,
    ⟨none, some 22, .idxA 1 (.t 20) (.t 21)⟩,
    ⟨none, some 23, .load false 1 (.t 22)⟩,
    ⟨none, some 24, .bin .neq (.t 19) (.t 23)⟩]
  [0, 0, 3, 7, 0, 0, 48, 112, 255] [])
  (.cond (.t 24) (.seq (.ops [⟨none, some 4, .move (.k (.c (.p (.bool false))))⟩] [])
   .ret)
   .skip))))
 (.ops [⟨none, some 25, .bin .add (.t 13) (.k (.c (.p (.int .i64 1))))⟩,
    ⟨none, some 13, .move (.t 25)⟩] []))))
def s_slices_Equal_string_string : S :=
 (.seq (.ops [⟨none, some 4, .move (.k (.c (.p (.bool false))))⟩] [])
 (.seq (.seq (.ops [⟨none, some 6, .move (.t 0)⟩,
    ⟨none, some 7, .len (.t 6)⟩,
    ⟨none, some 8, .move (.t 1)⟩,
    ⟨none, some 9, .len (.t 8)⟩,
    ⟨none, some 10, .bin .neq (.t 7) (.t 9)⟩] [])
 (.cond (.t 10) (.seq (.ops [⟨none, some 4, .move (.k (.c (.p (.bool false))))⟩] [])
  .ret)
  .skip))
 (.seq (.seq (.ops [⟨none, some 11, .move (.t 0)⟩,
    ⟨none, some 12, .len (.t 11)⟩,
    ⟨none, some 13, .move (.k (.c (.p (.int .i64 0))))⟩] [])
 (.block 0 (.loop [0, 1, 12, 13] b_slices_Equal_string_string_0)))
 (.seq (.ops [⟨none, some 4, .move (.k (.c (.p (.bool true))))⟩] [])
 .ret))))
theorem c_slices_Equal_string_string : comp Try.prog { own := [], mt := [], lp := [(0, [0, 1, 12, 13])], gh := [] } 26 (Try.f69.body.getD .skip) = some s_slices_Equal_string_string := by kernel_rfl
abbrev r_slices_Equal_string_string : List RV := [.tmp 4]
theorem a_slices_Equal_string_string {args : List AV} {H : List (Nat × Blk)} {nx : Nat} {K : AV → List (Nat × Blk) → Nat → Prop} (hal : args.length ≤ 26) (h : W Try.prog s_slices_Equal_string_string (RETK r_slices_Equal_string_string K) ⟨argE 0 args, H, nx⟩) : ACalls Try.prog 69 args H nx K :=
  acalls_of_W (drawOk mixed) Try.func69 rfl (by kernel_rfl) (of_decide_eq_true (by kernel_rfl)) (by kernel_rfl) c_slices_Equal_string_string (by kernel_rfl) hal h
theorem p_slices_Equal_string_string {args : List AV} {r : AV} (hal : args.length ≤ 26) (hp : args.all pureA = true) (hr : pureA r = true) (h : W Try.prog s_slices_Equal_string_string (RETK r_slices_Equal_string_string fun a H _ => FRZ r a H) ⟨argE 0 args, [], 0⟩) : PCalls Try.prog 69 args r := .of hp (a_slices_Equal_string_string hal h) hr

/-! slices.Equal[[]pleach/api.Prop,pleach/api.Prop] -/
abbrev n_slices_Equal_api_Prop_api_Prop : Nat := 70
def b_slices_Equal_api_Prop_api_Prop_0 : S :=
 (.seq (.ops [⟨none, some 14, .bin .lss (.t 13) (.t 12)⟩] [])
 (.seq (.cond (.t 14) .skip
  (.exit 0))
 (.seq (.block 1 (.seq (.ops [⟨none, some 15, .move (.t 13)⟩,
    ⟨none, some 5, .move (.t 15)⟩] [])
  (.seq (.draw [⟨none, some 16, .move (.t 0)⟩,
    ⟨none, some 17, .move (.t 5)⟩,
    ⟨none, some 18, .idxA 4 (.t 16) (.t 17)⟩,
    ⟨none, some 19, .load true 4 (.t 18)⟩,
    ⟨none, some 20, .move (.t 1)⟩,
    ⟨none, some 21, .move (.t 5)⟩,
    ⟨none, some 22, .idxA 4 (.t 20) (.t 21)⟩,
    ⟨none, some 23, .load true 4 (.t 22)⟩,
    ⟨none, some 24, .eqS [.str, .int, .int, .str] true (.t 19) (.t 23)⟩]
  [0, 0, 3, 7, 0, 0, 48, 112, 255] [])
  (.cond (.t 24) (.seq (.ops [⟨none, some 4, .move (.k (.c (.p (.bool false))))⟩] [])
   .ret)
   .skip))))
 (.ops [⟨none, some 25, .bin .add (.t 13) (.k (.c (.p (.int .i64 1))))⟩,
    ⟨none, some 13, .move (.t 25)⟩] []))))
def s_slices_Equal_api_Prop_api_Prop : S :=
 (.seq (.ops [⟨none, some 4, .move (.k (.c (.p (.bool false))))⟩] [])
 (.seq (.seq (.ops [⟨none, some 6, .move (.t 0)⟩,
    ⟨none, some 7, .len (.t 6)⟩,
    ⟨none, some 8, .move (.t 1)⟩,
    ⟨none, some 9, .len (.t 8)⟩,
    ⟨none, some 10, .bin .neq (.t 7) (.t 9)⟩] [])
 (.cond (.t 10) (.seq (.ops [⟨none, some 4, .move (.k (.c (.p (.bool false))))⟩] [])
  .ret)
  .skip))
 (.seq (.seq (.ops [⟨none, some 11, .move (.t 0)⟩,
    ⟨none, some 12, .len (.t 11)⟩,
    ⟨none, some 13, .move (.k (.c (.p (.int .i64 0))))⟩] [])
 (.block 0 (.loop [0, 1, 12, 13] b_slices_Equal_api_Prop_api_Prop_0)))
 (.seq (.ops [⟨none, some 4, .move (.k (.c (.p (.bool true))))⟩] [])
 .ret))))
theorem c_slices_Equal_api_Prop_api_Prop : comp Try.prog { own := [], mt := [], lp := [(0, [0, 1, 12, 13])], gh := [] } 26 (Try.f70.body.getD .skip) = some s_slices_Equal_api_Prop_api_Prop := by kernel_rfl
abbrev r_slices_Equal_api_Prop_api_Prop : List RV := [.tmp 4]
theorem a_slices_Equal_api_Prop_api_Prop {args : List AV} {H : List (Nat × Blk)} {nx : Nat} {K : AV → List (Nat × Blk) → Nat → Prop} (hal : args.length ≤ 26) (h : W Try.prog s_slices_Equal_api_Prop_api_Prop (RETK r_slices_Equal_api_Prop_api_Prop K) ⟨argE 0 args, H, nx⟩) : ACalls Try.prog 70 args H nx K :=
  acalls_of_W (drawOk mixed) Try.func70 rfl (by kernel_rfl) (of_decide_eq_true (by kernel_rfl)) (by kernel_rfl) c_slices_Equal_api_Prop_api_Prop (by kernel_rfl) hal h
theorem p_slices_Equal_api_Prop_api_Prop {args : List AV} {r : AV} (hal : args.length ≤ 26) (hp : args.all pureA = true) (hr : pureA r = true) (h : W Try.prog s_slices_Equal_api_Prop_api_Prop (RETK r_slices_Equal_api_Prop_api_Prop fun a H _ => FRZ r a H) ⟨argE 0 args, [], 0⟩) : PCalls Try.prog 70 args r := .of hp (a_slices_Equal_api_Prop_api_Prop hal h) hr

/-! slices.EqualFunc[[]pleach/api.Edge,[]pleach/api.Edge,pleach/api.Edge,pleach/api.Edge] -/
abbrev n_slices_EqualFunc_api_Edge_api_Edge_api_Edge_api_Edge : Nat := 71
def b_slices_EqualFunc_api_Edge_api_Edge_api_Edge_api_Edge_0 : S :=
 (.seq (.ops [⟨none, some 18, .bin .lss (.t 17) (.t 16)⟩] [])
 (.seq (.cond (.t 18) .skip
  (.exit 0))
 (.seq (.block 1 (.seq (.ops [⟨none, some 19, .move (.t 17)⟩,
    ⟨none, some 20, .idxA 5 (.t 15) (.t 17)⟩,
    ⟨none, some 21, .load true 5 (.t 20)⟩,
    ⟨none, some 8, .allocB 5 [[.p (.str []), .p (.str []), .p (.str []), .p .nil, .p .nil]]⟩,
    ⟨none, some 7, .move (.t 19)⟩,
    ⟨none, none, .store 5 (.t 8) (.t 21)⟩] [.frz 8])
  (.seq (.ops [⟨none, some 22, .move (.t 1)⟩,
    ⟨none, some 23, .move (.t 7)⟩,
    ⟨none, some 24, .idxA 5 (.t 22) (.t 23)⟩,
    ⟨none, some 25, .load true 5 (.t 24)⟩,
    ⟨none, some 9, .allocB 5 [[.p (.str []), .p (.str []), .p (.str []), .p .nil, .p .nil]]⟩,
    ⟨none, none, .store 5 (.t 9) (.t 25)⟩] [.frz 9])
  (.seq (.ops [⟨none, some 26, .move (.t 2)⟩,
    ⟨none, some 27, .load true 5 (.t 8)⟩,
    ⟨none, some 28, .load true 5 (.t 9)⟩,
    ⟨none, some 29, .callv (.t 26) [(.t 27), (.t 28)]⟩,
    ⟨none, some 30, .un .not (.t 29)⟩] [])
  (.cond (.t 30) (.seq (.ops [⟨none, some 6, .move (.k (.c (.p (.bool false))))⟩] [])
   .ret)
   .skip)))))
 (.ops [⟨none, some 31, .bin .add (.t 17) (.k (.c (.p (.int .i64 1))))⟩,
    ⟨none, some 17, .move (.t 31)⟩] []))))
def s_slices_EqualFunc_api_Edge_api_Edge_api_Edge_api_Edge : S :=
 (.seq (.ops [⟨none, some 6, .move (.k (.c (.p (.bool false))))⟩] [])
 (.seq (.seq (.ops [⟨none, some 10, .move (.t 0)⟩,
    ⟨none, some 11, .len (.t 10)⟩,
    ⟨none, some 12, .move (.t 1)⟩,
    ⟨none, some 13, .len (.t 12)⟩,
    ⟨none, some 14, .bin .neq (.t 11) (.t 13)⟩] [])
 (.cond (.t 14) (.seq (.ops [⟨none, some 6, .move (.k (.c (.p (.bool false))))⟩] [])
  .ret)
  .skip))
 (.seq (.seq (.ops [⟨none, some 15, .move (.t 0)⟩,
    ⟨none, some 16, .len (.t 15)⟩,
    ⟨none, some 17, .move (.k (.c (.p (.int .i64 0))))⟩] [])
 (.block 0 (.loop [1, 2, 15, 16, 17] b_slices_EqualFunc_api_Edge_api_Edge_api_Edge_api_Edge_0)))
 (.seq (.ops [⟨none, some 6, .move (.k (.c (.p (.bool true))))⟩] [])
 .ret))))
theorem c_slices_EqualFunc_api_Edge_api_Edge_api_Edge_api_Edge : comp Try.prog { own := [], mt := [], lp := [(0, [1, 2, 15, 16, 17])], gh := [(5, [.frz 8]), (6, [.frz 9])] } 32 (Try.f71.body.getD .skip) = some s_slices_EqualFunc_api_Edge_api_Edge_api_Edge_api_Edge := by kernel_rfl
abbrev r_slices_EqualFunc_api_Edge_api_Edge_api_Edge_api_Edge : List RV := [.tmp 6]
theorem a_slices_EqualFunc_api_Edge_api_Edge_api_Edge_api_Edge {args : List AV} {H : List (Nat × Blk)} {nx : Nat} {K : AV → List (Nat × Blk) → Nat → Prop} (hal : args.length ≤ 32) (h : W Try.prog s_slices_EqualFunc_api_Edge_api_Edge_api_Edge_api_Edge (RETK r_slices_EqualFunc_api_Edge_api_Edge_api_Edge_api_Edge K) ⟨argE 0 args, H, nx⟩) : ACalls Try.prog 71 args H nx K :=
  acalls_of_W (drawOk mixed) Try.func71 rfl (by kernel_rfl) (of_decide_eq_true (by kernel_rfl)) (by kernel_rfl) c_slices_EqualFunc_api_Edge_api_Edge_api_Edge_api_Edge (by kernel_rfl) hal h
theorem p_slices_EqualFunc_api_Edge_api_Edge_api_Edge_api_Edge {args : List AV} {r : AV} (hal : args.length ≤ 32) (hp : args.all pureA = true) (hr : pureA r = true) (h : W Try.prog s_slices_EqualFunc_api_Edge_api_Edge_api_Edge_api_Edge (RETK r_slices_EqualFunc_api_Edge_api_Edge_api_Edge_api_Edge fun a H _ => FRZ r a H) ⟨argE 0 args, [], 0⟩) : PCalls Try.prog 71 args r := .of hp (a_slices_EqualFunc_api_Edge_api_Edge_api_Edge_api_Edge hal h) hr

/-! pleach/graph.Same$2 -/
abbrev n_graph_Same_2 : Nat := 72
def s_graph_Same_2 : S :=
 (.seq (.ops [⟨none, some 2, .boxI (.t 0)⟩,
    ⟨none, some 3, .boxI (.t 1)⟩,
    ⟨none, some 4, .move (.k (.c (.p (.bool false))))⟩] [])
 (.seq (.ops [⟨none, some 5, .fieldA 0 1 (.t 2)⟩,
    ⟨none, some 6, .load false 1 (.t 5)⟩,
    ⟨none, some 7, .fieldA 0 1 (.t 3)⟩,
    ⟨none, some 8, .load false 1 (.t 7)⟩,
    ⟨none, some 9, .bin .eql (.t 6) (.t 8)⟩,
    ⟨none, some 10, .move (.t 9)⟩,
    ⟨some (10, true), some 11, .fieldA 1 1 (.t 2)⟩,
    ⟨some (10, true), some 12, .load false 1 (.t 11)⟩,
    ⟨some (10, true), some 13, .fieldA 1 1 (.t 3)⟩,
    ⟨some (10, true), some 14, .load false 1 (.t 13)⟩,
    ⟨some (10, true), some 15, .bin .eql (.t 12) (.t 14)⟩,
    ⟨none, some 16, .pick (.t 10) (.t 15) (.k (.c (.p (.bool false))))⟩,
    ⟨none, some 17, .move (.t 16)⟩,
    ⟨some (17, true), some 18, .fieldA 2 1 (.t 2)⟩,
    ⟨some (17, true), some 19, .load false 1 (.t 18)⟩,
    ⟨some (17, true), some 20, .fieldA 2 1 (.t 3)⟩,
    ⟨some (17, true), some 21, .load false 1 (.t 20)⟩,
    ⟨some (17, true), some 22, .bin .eql (.t 19) (.t 21)⟩,
    ⟨none, some 23, .pick (.t 17) (.t 22) (.k (.c (.p (.bool false))))⟩,
    ⟨none, some 24, .move (.t 23)⟩,
    ⟨some (24, true), some 25, .fieldA 3 1 (.t 2)⟩,
    ⟨some (24, true), some 26, .load false 1 (.t 25)⟩,
    ⟨some (24, true), some 27, .fieldA 3 1 (.t 3)⟩,
    ⟨some (24, true), some 28, .load false 1 (.t 27)⟩,
    ⟨some (24, true), some 29, .call 69 [(.t 26), (.t 28)]⟩,
    ⟨none, some 30, .pick (.t 24) (.t 29) (.k (.c (.p (.bool false))))⟩,
    ⟨none, some 31, .move (.t 30)⟩,
    ⟨some (31, true), some 32, .fieldA 4 1 (.t 2)⟩,
    ⟨some (31, true), some 33, .load false 1 (.t 32)⟩,
    ⟨some (31, true), some 34, .fieldA 4 1 (.t 3)⟩,
    ⟨some (31, true), some 35, .load false 1 (.t 34)⟩,
    ⟨some (31, true), some 36, .call 70 [(.t 33), (.t 35)]⟩,
    ⟨none, some 37, .pick (.t 31) (.t 36) (.k (.c (.p (.bool false))))⟩,
    ⟨none, some 4, .move (.t 37)⟩] [])
 .ret))
theorem c_graph_Same_2 : comp Try.prog { own := [], mt := [], lp := [], gh := [] } 38 (Try.f72.body.getD .skip) = some s_graph_Same_2 := by kernel_rfl
abbrev r_graph_Same_2 : List RV := [.tmp 4]
theorem a_graph_Same_2 {args : List AV} {H : List (Nat × Blk)} {nx : Nat} {K : AV → List (Nat × Blk) → Nat → Prop} (hal : args.length ≤ 38) (h : W Try.prog s_graph_Same_2 (RETK r_graph_Same_2 K) ⟨argE 0 args, H, nx⟩) : ACalls Try.prog 72 args H nx K :=
  acalls_of_W (drawOk mixed) Try.func72 rfl (by kernel_rfl) (of_decide_eq_true (by kernel_rfl)) (by kernel_rfl) c_graph_Same_2 (by kernel_rfl) hal h
theorem p_graph_Same_2 {args : List AV} {r : AV} (hal : args.length ≤ 38) (hp : args.all pureA = true) (hr : pureA r = true) (h : W Try.prog s_graph_Same_2 (RETK r_graph_Same_2 fun a H _ => FRZ r a H) ⟨argE 0 args, [], 0⟩) : PCalls Try.prog 72 args r := .of hp (a_graph_Same_2 hal h) hr

end Go.Ab
end PSy

section PCloN
/- Contracts, library: slices.Clone at [node]. -/
set_option linter.unusedVariables false
set_option linter.unusedSimpArgs false
namespace Go.Ab
open Go.Proofs

theorem clone_node_row (x : Sl FNode) (hby : x.l.length * 64 ≤ 140737488355328) {H : List (Nat × Blk)} {nx : Nat} {K : AV → List (Nat × Blk) → Nat → Prop}
    (hk : K (.c (.ref (nx + 1) 0 0 x.l.length)) ((nx + 1, .row 0 3 x.st (x.l.map fun y => (encN y).map .p)) :: (nx, .row 0 3 .nil []) :: H) (nx + 2)) :
    ACalls Try.prog n_slices_Clone_api_Node_api_Node [x.av 3 encN] H nx K := by
  refine a_slices_Clone_api_Node_api_Node (Nat.le_of_ble_eq_true rfl) ?_
  obtain ⟨k, l, ok⟩ := x
  cases k with
  | none =>
    obtain rfl := ok rfl
    simp -implicitDefEqProofs only [go_sem, reduceIte, Nat.reduceEqDiff, s_slices_Clone_api_Node_api_Node, Sl.av, slP, isNilK, neg, Nat.add_assoc]
    exact hk
  | some f =>
    simp -implicitDefEqProofs only [go_sem, reduceIte, Nat.reduceEqDiff, s_slices_Clone_api_Node_api_Node, Sl.av, slP, isNilK, neg, Nat.add_assoc, litA, toPss, Option.bind_some, appendA, content, hby, List.map_map, List.length_map, and_self]
    cases l <;> exact hk
theorem clone_node_ok (x : Sl FNode) (hby : x.l.length * 64 ≤ 140737488355328) : PCalls Try.prog n_slices_Clone_api_Node_api_Node [x.av 3 encN] (x.clone.av 3 encN) := by
  refine .of rfl (clone_node_row x hby ?_) rfl
  simp -implicitDefEqProofs only [go_sem, reduceIte, Nat.reduceEqDiff, frz_st]
end Go.Ab
end PCloN

section PCloE
/- Contracts, library: slices.Clone at [edge]. -/
set_option linter.unusedVariables false
set_option linter.unusedSimpArgs false
namespace Go.Ab
open Go.Proofs

theorem clone_edge_row (x : Sl FEdge) (hby : x.l.length * 96 ≤ 140737488355328) {H : List (Nat × Blk)} {nx : Nat} {K : AV → List (Nat × Blk) → Nat → Prop}
    (hk : K (.c (.ref (nx + 1) 0 0 x.l.length)) ((nx + 1, .row 0 5 x.st (x.l.map fun y => (encE y).map .p)) :: (nx, .row 0 5 .nil []) :: H) (nx + 2)) :
    ACalls Try.prog n_slices_Clone_api_Edge_api_Edge [x.av 5 encE] H nx K := by
  refine a_slices_Clone_api_Edge_api_Edge (Nat.le_of_ble_eq_true rfl) ?_
  obtain ⟨k, l, ok⟩ := x
  cases k with
  | none =>
    obtain rfl := ok rfl
    simp -implicitDefEqProofs only [go_sem, reduceIte, Nat.reduceEqDiff, s_slices_Clone_api_Edge_api_Edge, Sl.av, slP, isNilK, neg, Nat.add_assoc]
    exact hk
  | some f =>
    simp -implicitDefEqProofs only [go_sem, reduceIte, Nat.reduceEqDiff, s_slices_Clone_api_Edge_api_Edge, Sl.av, slP, isNilK, neg, Nat.add_assoc, litA, toPss, Option.bind_some, appendA, content, hby, List.map_map, List.length_map, and_self]
    cases l <;> exact hk
theorem clone_edge_ok (x : Sl FEdge) (hby : x.l.length * 96 ≤ 140737488355328) : PCalls Try.prog n_slices_Clone_api_Edge_api_Edge [x.av 5 encE] (x.clone.av 5 encE) := by
  refine .of rfl (clone_edge_row x hby ?_) rfl
  simp -implicitDefEqProofs only [go_sem, reduceIte, Nat.reduceEqDiff, frz_st]
end Go.Ab
end PCloE
