/- Profile: slices.SortedFunc at ints, with Hot's comparison. -/
import Derived.Test.YtjeaojolhdfpeaaGreatShelfQ
import Derived.Test.YtjeaojolhdfpeaaGreatShelfP
import Derived.Shelf.SlSortCmp.NoneTotal
import Derived.RangeFuncBound
namespace Go.Proofs.YtjeaojolhdfpeaaGreat.HotS
open Go.RowKit Go.Maps Go.Sort Go.Shelf Go.Proofs.YtjeaojolhdfpeaaGreatW.PrintWords
open Go.Proofs.YtjeaojolhdfpeaaGreat.HotP Go.Proofs.YtjeaojolhdfpeaaGreat.HotM Go.Proofs.YtjeaojolhdfpeaaGreat.HotC
set_option linter.unusedVariables false
set_option linter.unusedSimpArgs false

/-- A number that fits in 64 bits. -/
abbrev Z := {x : Int // (Lit.int .i64 x).wf = true}
instance : Inhabited Z := ⟨⟨0, by decide⟩⟩
def ez (z : Z) : Value := .int .i64 z.1
theorem ez1 : OneCell ez := fun _ => rfl
def cz (c : Int → Int) (x y : Z) : Int := cf c x.1 y.1
theorem swz (c : Int → Int) : SWO (ltOf (cz c)) where
  irrefl x := (swo c).irrefl x.1
  trans x y z := (swo c).trans x.1 y.1 z.1
  ntrans x y z := (swo c).ntrans x.1 y.1 z.1
theorem get_val (d : Array Z) (j : Nat) (h : j < d.size) : (d.map (·.1))[j]! = (d[j]!).1 := by
  simp [getElem!_def, h]
theorem putCells_val (off : Nat) (d : Array Z) (cur : Array Value) : putCells ez off d cur = putCells encZ off (d.map (·.1)) cur := by
  unfold putCells
  congr 1
  funext k x
  rw [Array.size_map]
  split
  · rename_i h
    show Value.int .i64 _ = Value.int .i64 _
    rw [get_val d _ (by omega)]
  · rfl
theorem putRow_val (w : World) (blk off : Nat) (d : Array Z) : putRow ez w blk off d = putRow encZ w blk off (d.map (·.1)) := by
  unfold putRow
  congr 1
  funext cur
  exact putCells_val off d cur
theorem sortWorld_val (w : World) (blk m : Nat) (d : Array Z) (os : Array Obj) : sortWorld ez w blk 0 m d os = grow (putRow encZ (Sort.ahead w m) blk 0 (d.map (·.1))) os := by
  unfold sortWorld
  rw [putRow_val]
theorem own_below {w W : World} {bm n : Nat} {D : DataW Unit} (h : w.ownsMap Tryz.prog 3 (plainElem Tryz.prog 2) bm n D) (hW : Below w.heap.size w W) : W.ownsMap Tryz.prog 3 (plainElem Tryz.prog 2) bm n D := by
  have hbl := h.lt
  obtain ⟨es, clock, hb, Ft, hs, hD⟩ := h
  exact ⟨es, clock, (hW.block bm hbl).trans hb, Ft, hs, hD⟩
theorem lift (ss : List Int) (h : ∀ x ∈ ss, (Lit.int .i64 x).wf = true) : ∃ ds : List Z, ds.map (·.1) = ss :=
  ⟨ss.pmap Subtype.mk h, by simp [List.map_pmap]⟩

set_option maxHeartbeats 4000000 in
set_option maxRecDepth 100000 in
/-- SortedFunc: the numbers that come, each before those that the comparison sets behind it. -/
theorem sorted_calls (g : Nat) (lb : Array Value) (eg : ∀ args w, (callFunc g args).run Tryz.prog w = .ok (.enter g args) w) (S : List Int → Prop) (N : Nat) (hN : N ≤ maxLen) (hNb : N * 8 ≤ 140737488355328) (hS : ∀ ss, S ss → ∀ x ∈ ss, (Lit.int .i64 x).wf = true)
    (pb bm n : Nat) (D : DataW Unit) (c : Int → Int) (hat : ∀ x, D.atKey (kz x) (vz 0) = vz (c x)) (w : World) (hseq : SeqGives Fence.wide 2 Tryz.prog g lb encZ S N w)
    (hpb : pb < w.heap.size) (hb : w.cell? ⟨pb, 0, none⟩ = some (.map (some bm))) (hown : w.ownsMap Tryz.prog 3 (plainElem Tryz.prog 2) bm n D) :
    Calls Tryz.prog 58 #[.func (.func g) #[] lb, .func (.func 60) #[] #[.pointer (some ⟨pb, 0, none⟩)]] w fun e w' => ∃ (v : Value) (ss L : List Int), e = .returned v ∧ S ss ∧ L.Perm ss ∧ L.Pairwise (fun x y => HotP.lt c y x = false) ∧
      w'.ownsRow w.heap.size 3 1 v ss.length (L.map encZ) ∧ Below w.heap.size w w' := by
  have cC := callsIn_wide.1 (AnyZI.collect_in Tryz.hotCollect Fence.wide 4 trivial trivial rfl (by omega) g lb trivial eg _ N hN hNb w hseq.bounded)
  change Calls Tryz.prog 107 _ _ _ at cC
  have e40 : ∀ args w, (callFunc 60 args).run Tryz.prog w = .ok (.enter 60 args) w := enters_of Tryz.func60 (by kernel_rfl) rfl
  have hbm := hown.lt
  have HS := Aside0.mk hS
  have HQ := Aside0.mk hseq
  have HB := Aside0.mk hb
  have HO := Aside0.mk hown
  have HA := Aside0.mk hat
  have HC := Aside0.mk cC
  have HE := Aside0.mk e40
  clear hS hseq hb hown hat cC e40 eg
  go_enter Tryz.func58, Tryz.ntmps58
  go_wp2_with (go_at_call 107; refine HC.out.mono ?_; rintro e W ⟨v, ss, rfl, ⟨hS, hlen⟩, hrow, hnil, hbel⟩; refine Aside0.out (p := _) ?_)
  have HR : Aside0 (W.ownsRow w.heap.size 3 1 v ss.length (ss.map encZ)) := ⟨hrow⟩
  have HBel := Aside0.mk hbel
  have HS1 := Aside0.mk (HS.out ss hS)
  have HS2 := Aside0.mk hS
  clear hS hrow hbel hnil
  rcases HR.out.2 with ⟨rfl, hz⟩ | ⟨gb, cap, cur, rfl, hbase, hgb, r1, r2, r3, r4⟩
  · have hss : ss = [] := List.eq_nil_of_length_eq_zero hz
    subst hss
    have cN := Aside0.mk (AnyF.slices_SortFunc_none { Tryz.hotSort with } none 0 (.func (.func 60) #[] #[.pointer (some ⟨pb, 0, none⟩)]) W)
    refine Aside0.mk ?_
    go_wp2_with (go_at_call 108; refine cN.out.mono ?_; rintro e w' ⟨rfl, rfl⟩)
    go_ret
    exact ⟨_, [], [], rfl, HS2.out, .nil, .nil, by simpa using HR.out, HBel.out⟩
  · obtain ⟨ds, hds⟩ := lift ss HS1.out
    have hsz : ds.toArray.size = ss.length := by rw [← hds]; simp
    have hH0 : Holds encZ W gb 0 ss.toArray := holds_of_block_i hgb (by simpa using r4)
    have hH : Holds ez W gb 0 ds.toArray := by
      intro j hj
      have h1 := hH0 j (by simpa using (hsz ▸ hj))
      have h2 : (ss.toArray[j]!) = (ds.toArray[j]!).1 := by
        rw [← get_val _ _ hj, ← hds]
        simp
      rw [h2] at h1
      exact h1
    have hgl : gb < W.heap.size := (Array.getElem?_eq_some_iff.1 hgb).1
    have cmp : CmpLays1 Tryz.prog 60 #[.pointer (some ⟨pb, 0, none⟩)] ez (cz c) gb 0 ds.toArray.size W := by
      intro m os dk hdk x y
      have hg : W.grownBy (sortWorld ez W gb 0 m dk os) (some gb) := by
        rw [sortWorld_val]
        exact grownBy_sorted_i _
      have hne : gb ≠ pb := by omega
      have hne2 : gb ≠ bm := by omega
      have hcell : (sortWorld ez W gb 0 m dk os).cell? ⟨pb, 0, none⟩ = some (.map (some bm)) := by
        have h1 : W.cell? ⟨pb, 0, none⟩ = some (.map (some bm)) := (HBel.out.cell (by exact hpb)).trans HB.out
        have h2 := hg.block pb (World.block_lt_of_cell? W _ h1) (by simpa using hne.symm)
        unfold World.cell? at h1 ⊢
        simp only at h1 ⊢
        rw [h2]
        exact h1
      exact cmp_calls pb bm n D c HA.out x.1 y.1 x.2 y.2 _ hcell ((own_below HO.out HBel.out).kept hg (by simpa using hne2.symm))
    have cS := Aside0.mk (Any.slices_SortFunc Tryz.hotSort ez ez1 (cz c) (swz c) 60 #[.pointer (some ⟨pb, 0, none⟩)] gb 0 cap ds.toArray W HE.out cmp hH hgl (by rw [hsz]; omega))
    rw [hsz] at cS
    refine Aside0.mk ?_
    go_wp2_with (go_at_call 108; refine cS.out.mono ?_; rintro e w' ⟨rfl, d', nn, os, hp, hsd, rfl⟩)
    go_ret
    have hl : (d'.toList.map (·.1)).length = ss.length := by
      rw [List.length_map, Array.length_toList, hp.1, hsz]
    have ex : ∀ (e : Array Z), e.size = ss.length → (e.extract 0 ss.length).toList = e.toList := fun e he => by
      rw [← he, Array.extract_size]
    refine ⟨_, ss, d'.toList.map (·.1), rfl, HS2.out, ?_, ?_, ?_, ?_⟩
    · have h1 := hp.2.2
      rw [ex _ (hp.1.trans hsz), ex _ hsz] at h1
      have h2 := h1.map (fun z : Z => z.1)
      simpa [hds] using h2
    · rw [List.pairwise_map, List.pairwise_iff_getElem]
      intro i j hi hj hij
      have hj2 : j < d'.size := by simpa using hj
      have hi2 : i < d'.size := by simpa using hi
      have h1 := hsd i j (Nat.zero_le _) hij (by rw [← hsz, ← hp.1]; exact hj2)
      have e1 : d'[i]! = d'.toList[i] := by simp [getElem!_def, hi2]
      have e2 : d'[j]! = d'.toList[j] := by simp [getElem!_def, hj2]
      rw [e1, e2] at h1
      exact h1
    · rw [sortWorld_val]
      have e3 : d'.map (·.1) = (d'.toList.map (·.1)).toArray := by rw [← Array.toList_map, Array.toArray_toList]
      rw [e3]
      exact ownsRow_sorted_i hl hbase hgb r1 r2 r3
    · rw [sortWorld_val]
      exact HBel.out.grown (grownBy_sorted_i _) HBel.out.size (fun j hj => by cases hj; exact hbase)
end Go.Proofs.YtjeaojolhdfpeaaGreat.HotS
