/- Texts of one proof, joined by a program of this claim's: a semantic evaluator for the walks; the contracts of the functions; the plain laws. -/
import Derived.IntWalk
import Derived.Laws.Strings
import Derived.KernelRfl
import Derived.Lib.BytesEntry
import Derived.Laws.Externs
import Derived.Shelf.Strings.Builder1
import Derived.Shelf.Strings.Builder2
import Derived.Shelf.Small.Bits
import Derived.Shelf.Strconv.Itoa0
import Derived.Shelf.Strings.Search1
import Derived.Shelf.Sort.Plain
import Derived.Ground.Names2Prog
import Derived.Shelf.Slices.Clone
import Derived.Shelf.Slices.CompactS
import Derived.Shelf.Slices.Cells
import Derived.Shelf.Slices.In.SortNone
import Derived.Shelf.Bytes.SlSearch1
import Derived.Ground.SlgnProg
import Derived.Shelf.SlicesE.Clone
import Derived.Shelf.Bytes.IndexByte
import Derived.Test.YtimfimchlldabaaGreatProg
import Derived.Lib.IndexBytes
import Derived.Lib.IndexEntry
import Derived.Lib.IndexMore
import Derived.Test.YtimfimchlldabaaGreatCbB
set_option linter.all false
namespace Go.Dm
/-! ### A contract for rows, where there is nothing yet -/
/-- A row of one's own that has nothing. -/
def NilRow (x : Ob) : Prop := (∃ e s, x = .row e s []) ∨ ∃ e s, x = .mrow e s 0 []
theorem Inv.ghost {E : Env} {M : Mem} {w : World} {k o c : Nat} {x : Ob} {ds : List D} (h : Inv E (get M) w) (hb : E.blk k = none) (hd : ∀ n, E.hdr k n = none) (hN : get M k = none) (hg : get M o = some (.cells ds)) (h1 : ds[c]? = some (.v (.slice none 0 0))) (hx : NilRow x) :
    Inv (E.nilRow k) (get ((k, x) :: (o, .cells (splice ds c [.row k 0])) :: M)) w := by
  have hko : k ≠ o := by intro e; subst e; rw [hN] at hg; cases hg
  have le := nilRow_le hd
  have hh : ∀ j, j ≠ k → (E.nilRow k).hdr j = E.hdr j := fun j hj => by funext n; simp [Env.nilRow, hj]
  have hnew : obBlk (E.nilRow k) k x = none := by rcases hx with ⟨e, s, rfl⟩ | ⟨e, s, rfl⟩ <;> simp [obBlk, Env.nilRow, hdrBlk]
  have hob : ∀ id y, get M id = some y → ObOK (E.nilRow k) id w y := by
    intro id y hy
    have hne : id ≠ k := by intro e; subst e; rw [hN] at hy; cases hy
    refine (h.ob id y hy).keep (w := w) (E' := E.nilRow k) (own := fun _ => False) ⟨le, Nat.le_refl _, fun _ _ _ => rfl, fun b o v hv => .inl hv, rfl, rfl, rfl⟩ (fun _ _ h => h) fun n v hv => ?_
    rw [hh id hne] at hv; exact hv
  have hbk : ∀ id y, get M id = some y → obBlk (E.nilRow k) id y = obBlk E id y := fun id y hy => obBlk_le le (h.ob id y hy)
  have key : ∀ id z, get ((k, x) :: (o, .cells (splice ds c [.row k 0])) :: M) id = some z → (id = k ∧ z = x) ∨ ∃ y, get M id = some y ∧ obBlk (E.nilRow k) id z = obBlk E id y ∧ (z = y ∨ (id = o ∧ z = .cells (splice ds c [.row k 0]))) := by
    intro id z hz
    rw [get_cons] at hz
    split at hz
    · rename_i e'; injection hz with hz; exact .inl ⟨e'.symm, hz.symm⟩
    · rw [get_cons] at hz
      split at hz
      · rename_i e'
        subst e'
        injection hz with hz; subst hz
        refine .inr ⟨_, hg, ?_, .inr ⟨rfl, rfl⟩⟩
        have := hbk o _ hg
        simpa [obBlk] using this
      · exact .inr ⟨z, hz, hbk id z hz, .inl rfl⟩
  refine ⟨h.im, fun id z hz => ?_, fun i j y z b hy hz hyb hzb => ?_, h.gl⟩
  · rcases key id z hz with ⟨rfl, rfl⟩ | ⟨y, hy, _, rfl | ⟨rfl, rfl⟩⟩
    · rcases hx with ⟨e, s, rfl⟩ | ⟨e, s, rfl⟩
      · refine ⟨fun n v hv => ?_, .inl ⟨by simp [Env.nilRow], rfl⟩⟩
        simp only [Env.nilRow, if_true] at hv
        split at hv
        · rename_i e'; subst e'; injection hv with hv; subst hv
          exact ⟨Nat.le_refl _, none, 0, rfl, Nat.le_refl _, fun h => absurd rfl h⟩
        · cases hv
      · refine ⟨fun n v hv => ?_, .inl ⟨by simp [Env.nilRow], rfl⟩⟩
        simp only [Env.nilRow, if_true] at hv
        split at hv
        · rename_i e'; omega
        · cases hv
    · exact hob id z hy
    · obtain ⟨b, cc, T, g1, g2, g3, g4⟩ := hob id _ hg
      refine ⟨b, cc, T, g1, g2, ?_, g4⟩
      have hc : cc.toList[c]? = some (.slice none 0 0) := by
        obtain ⟨v, hv1, hv2⟩ := rels_get g3 h1
        have : v = .slice none 0 0 := hv2
        rw [hv1, this]
      have := rels_splice (cs := [.row k 0]) (vs := [.slice none 0 0]) g3 ⟨_, [], rfl, ⟨by simp [Env.nilRow], rfl⟩, rfl⟩ c
      rwa [splice_self hc] at this
  · rcases key i y hy with ⟨rfl, rfl⟩ | ⟨y', hy', ey, _⟩
    · rw [hnew] at hyb; cases hyb
    · rcases key j z hz with ⟨rfl, rfl⟩ | ⟨z', hz', ez, _⟩
      · rw [hnew] at hzb; cases hzb
      · rw [ey] at hyb; rw [ez] at hzb
        exact h.sep i j y' z' b hy' hz' hyb hzb
/-- What the contract leaves is no row that the caller can't know of. -/
def GhostOK (k o : Nat) : Out → Prop
  | .ret _ post => k ∈ post.map (·.1) ∧ o ∈ post.map (·.1)
  | .pan d => flat d = true
theorem PCall.ghost {P : Program} {f : FuncId} {pre0 : Mem} {ds args : List D} {out : Out} {x : Ob} (k o c : Nat) (h : PCall P f ((k, x) :: (o, .cells (splice ds c [.row k 0])) :: pre0) args out)
    (hx : NilRow x) (h1 : ds[c]? = some (.v (.slice none 0 0))) (h2 : occM k ((o, .cells ds) :: pre0) = false) (h3 : occs k args = false) (h4 : GhostOK k o out) : PCall P f ((o, .cells ds) :: pre0) args out := by
  refine ⟨h.1, fun E w vs hi hnew hr => ?_⟩
  have hN : get ((o, .cells ds) :: pre0) k = none := (occM_get h2).1
  have hko : k ≠ o := by intro e; subst e; rw [get_cons, if_pos rfl] at hN; cases hN
  have hN0 : get pre0 k = none := by rw [get_cons, if_neg (Ne.symm hko)] at hN; exact hN
  let E0 := E.forget k
  have i0 : Inv E0 (get ((o, .cells ds) :: pre0)) w := hi.forget h2
  have hb0 : E0.blk k = none := by simp [E0, Env.forget]
  have hd0 : ∀ n, E0.hdr k n = none := fun n => by simp [E0, Env.forget]
  have i1 := i0.ghost hb0 hd0 hN (o := o) (c := c) (by rw [get_cons, if_pos rfl]) h1 hx
  have eg : get ((k, x) :: (o, .cells (splice ds c [.row k 0])) :: (o, .cells ds) :: pre0) = get ((k, x) :: (o, .cells (splice ds c [.row k 0])) :: pre0) := by
    funext j
    simp only [get_cons]
    split
    · rfl
    · split <;> rfl
  rw [eg] at i1
  let E1 := E0.nilRow k
  have le01 : E0.le E1 := nilRow_le hd0
  have e1b : ∀ j, j ≠ k → E1.blk j = E.blk j := fun j hj => by simp [E1, E0, Env.nilRow, Env.forget, hj]
  have e1h : ∀ j, j ≠ k → E1.hdr j = E.hdr j := fun j hj => by funext n; simp [E1, E0, Env.nilRow, Env.forget, hj]
  have hob1 : ∀ j y, j ≠ k → obBlk E1 j y = obBlk E j y := fun j y hj => by cases y <;> simp [obBlk, e1b j hj, e1h j hj]
  have hxk : obBlk E1 k x = none := by rcases hx with ⟨e, s, rfl⟩ | ⟨e, s, rfl⟩ <;> simp [obBlk, E1, Env.nilRow, hdrBlk]
  have own1 : ∀ (post : Mem) b, ownOf E1 (get ((k, x) :: (o, .cells (splice ds c [.row k 0])) :: pre0)) post b → ownOf E (get ((o, .cells ds) :: pre0)) post b := by
    rintro post b ⟨p, hp, y, hy, hyb⟩
    by_cases hpk : p.1 = k
    · rw [get_cons, if_pos hpk.symm] at hy
      injection hy with hy; subst hy
      rw [hpk, hxk] at hyb; cases hyb
    · rw [get_cons, if_neg (Ne.symm hpk), get_cons] at hy
      rw [hob1 _ _ hpk] at hyb
      refine ⟨p, hp, ?_⟩
      rw [get_cons]
      by_cases hpo : o = p.1
      · rw [if_pos hpo] at hy ⊢
        injection hy with hy; subst hy
        exact ⟨_, rfl, by simpa [obBlk] using hyb⟩
      · rw [if_neg hpo] at hy ⊢
        exact ⟨y, hy, hyb⟩
  have hc := h.2 E1 w vs i1 (fun j hj => ?_) (rels_mono _ le01 (rels_forget _ h3 hr))
  · refine Calls.mono hc fun e w' he => ?_
    cases out with
    | ret d post =>
      obtain ⟨v, E', rfl, hd, hv⟩ := he
      obtain ⟨hpk, hpo⟩ := h4
      obtain ⟨hbk, hhk⟩ := hnew k ⟨hN, hpk⟩
      have leE : E.le E1 := by
        refine ⟨fun _ _ _ h => h, fun j b hb => ?_, fun j n u hu => ?_⟩
        · rw [e1b j (by intro e; subst e; rw [hbk] at hb; cases hb)]; exact hb
        · rw [e1h j (by intro e; subst e; rw [hhk] at hu; cases hu)]; exact hu
      refine ⟨v, E', rfl, ⟨⟨leE.trans hd.st.le, hd.st.size, fun b hb hn => hd.st.frame b hb fun ho => hn (own1 _ _ ho), fun b q u hu => (hd.st.new b q u hu).imp id (·.imp id (own1 _ _)), hd.st.os, hd.st.tape, hd.st.output⟩, hd.inv.sub fun id y hy => ?_, fun j hj => ?_, fun p hp b hb => (hd.bd p hp b hb).imp (own1 _ _) id⟩, hv⟩
      · rw [upds_eq] at hy ⊢
        cases hgp : get post id with
        | some z => rw [hgp] at hy; exact hy
        | none =>
          rw [hgp] at hy
          simp only at hy ⊢
          have hik : k ≠ id := by intro e; subst e; exact get_none_mem hgp hpk
          have hio : o ≠ id := by intro e; subst e; exact get_none_mem hgp hpo
          rw [get_cons, if_neg hio] at hy
          rw [get_cons, if_neg hik, get_cons, if_neg hio]; exact hy
      · have hjk : j ≠ k := by intro e; subst e; exact hj hpk
        obtain ⟨g1, g2⟩ := hd.ids j hj
        exact ⟨g1.trans (e1b j hjk), g2.trans (e1h j hjk)⟩
    | pan d =>
      obtain ⟨y, E', rfl, hst, him, hy⟩ := he
      have own2 : ∀ b, ownOf E1 (get ((k, x) :: (o, .cells (splice ds c [.row k 0])) :: pre0)) ((k, x) :: (o, .cells (splice ds c [.row k 0])) :: pre0) b → ownOf E (get ((o, .cells ds) :: pre0)) ((o, .cells ds) :: pre0) b := by
        intro b hb
        obtain ⟨p, hp, z, hz, hzb⟩ := own1 _ b hb
        simp only [List.mem_cons] at hp
        rcases hp with rfl | rfl | hp
        · exfalso
          simp only at hz
          rw [hN] at hz; cases hz
        · exact ⟨(o, .cells ds), by simp, z, hz, hzb⟩
        · exact ⟨p, by simp [hp], z, hz, hzb⟩
      refine ⟨y, ⟨E'.im, E.blk, E.hdr⟩, rfl, ⟨⟨hst.le.im, fun _ _ h => h, fun _ _ _ h => h⟩, hst.size, fun b hb hn => hst.frame b hb fun ho => hn (own2 b ho), fun b q u hu => (hst.new b q u hu).imp id (·.imp id (own2 b)), hst.os, hst.tape, hst.output⟩, him, flat_rel d h4 hy⟩
  · cases out with
    | pan d => exact hj.elim
    | ret d post =>
      obtain ⟨j1, j2⟩ := hj
      have hjk : k ≠ j := by intro e; subst e; rw [get_cons, if_pos rfl] at j1; cases j1
      rw [get_cons, if_neg hjk, get_cons] at j1
      have hjo : o ≠ j := by intro e; subst e; rw [if_pos rfl] at j1; cases j1
      rw [if_neg hjo] at j1
      obtain ⟨g1, g2⟩ := hnew j ⟨by rw [get_cons, if_neg hjo]; exact j1, j2⟩
      exact ⟨by rw [e1b j (Ne.symm hjk)]; exact g1, fun n => by rw [e1h j (Ne.symm hjk)]; exact g2 n⟩
theorem swM_keys (i j : Nat) : ∀ M : Mem, (swM i j M).map (·.1) = (M.map (·.1)).map (swN i j)
  | [] => rfl
  | (k, x) :: r => by simp [swM, swM_keys i j r]
/-- What was done, under other names. -/
theorem Done.swap {E E' : Env} {pre post : Mem} {w w' : World} (i j : Nat) (hd : Done (E.sw i j) E' (get pre) post w w') : Done E (E'.sw i j) (get (swM i j pre)) (swM i j post) w w' := by
  have hN : ∀ k, get (swM i j pre) k = (get pre (swN i j k)).map (swOb i j) := get_swM i j pre
  have hN2 : ∀ k, upds (get pre) post k = (upds (get (swM i j pre)) (swM i j post) (swN i j k)).map (swOb i j) := by
    intro k
    rw [upds_swM i j hN post, swN_swN]
    cases upds (get pre) post k <;> simp [swOb_swOb]
  refine ⟨⟨⟨hd.st.le.im, fun k b hb => ?_, fun k n u hu => ?_⟩, hd.st.size, fun b hb hn => hd.st.frame b hb fun ho => hn ((ownOf_sw i j hN post b).2 ho), fun b o u hu => (hd.st.new b o u hu).imp id (·.imp id (ownOf_sw i j hN post b).2), hd.st.os, hd.st.tape, hd.st.output⟩, Inv_sw i j hN2 hd.inv, fun k hk => ?_, fun p hp b hb => ?_⟩
  · exact hd.st.le.blk (swN i j k) b (by rw [sw_blk]; exact hb)
  · exact hd.st.le.hdr (swN i j k) n u (by rw [sw_hdr]; exact hu)
  · rw [keys_swM] at hk
    obtain ⟨h1, h2⟩ := hd.ids _ hk
    exact ⟨h1.trans (sw_blk E i j k), h2.trans (sw_hdr E i j k)⟩
  · obtain ⟨q, hq, rfl⟩ := (mem_swM i j).1 hp
    rw [obBlk_sw, Env.sw_sw, swN_swN] at hb
    exact (hd.bd q hq b hb).imp (ownOf_sw i j hN post b).2 id
def swOp (i j : Nat) : Option D → Option D
  | none => none
  | some d => some (swD i j d)
theorem DCall.swap {P : Program} {f : FuncId} {m : Option D} {pre post : Mem} {ds : List D} (i j : Nat) (h : DCall P f m pre ds post) : DCall P f (swOp i j m) (swM i j pre) (swL i j ds) (swM i j post) := by
  obtain ⟨h1, h2, h3⟩ := h
  refine ⟨h1, by rw [swM_keys, swM_keys, h2], fun E w vs u u' x hi hr hm => ?_⟩
  have hc := h3 (E.sw i j) w vs u u' x (Inv_sw i j (get_swM i j pre) hi) ((rels_sw i j ds).1 hr) (by
    cases m with
    | none => exact hm
    | some d => exact ⟨hm.1, hm.2.1, (rel_sw i j d).1 hm.2.2⟩)
  refine CallsD.mono hc ?_
  rintro e u'' w' ⟨v, E', h4, h5, hd⟩
  exact ⟨v, E'.sw i j, h4, h5, hd.swap i j⟩
end Go.Dm
namespace Go.Dm
def str (l : List UInt8) : Value := .string ⟨l.toArray⟩
theorem strEq_iff {a b : List UInt8} : strEq ⟨a.toArray⟩ ⟨b.toArray⟩ = true ↔ a = b := by
  simp [strEq, ByteArray.toList_eq]
theorem strEq_ff {a b : List UInt8} : strEq ⟨a.toArray⟩ ⟨b.toArray⟩ = false ↔ a ≠ b := by
  rw [← Bool.not_eq_true, Ne, not_congr strEq_iff]
theorem KI.i64 {K : Kont} {n : Int} (c : Int) (e : n = c) (h : -9223372036854775808 ≤ c ∧ c ≤ 9223372036854775807) (hK : KV K (.int .i64 c)) : KI K .i64 (IntKind.i64.wrap n) := by
  subst e
  exact ⟨by rw [IntWalk.i64_in n h]; exact hK⟩
theorem KI.u8 {K : Kont} {n : Int} (c : Int) (e : n = c) (h : 0 ≤ c ∧ c ≤ 255) (hK : KV K (.int .u8 c)) : KI K .u8 (IntKind.u8.wrap n) := by
  subst e
  refine ⟨?_⟩
  have : IntKind.u8.wrap n = n := by
    simp only [IntKind.wrap, IntKind.bits, IntKind.signed]
    simp
    omega
  rw [this]; exact hK
/-! Bytes -/
theorem byD_get {b : List UInt8} {j : Nat} {c : UInt8} (h : b[j]? = some c) : (byD b)[j]? = some [.v (.int .u8 c.toNat)] := by simp [byD, h]
theorem byD_cut (b : List UInt8) (l h : Nat) : ((byD b).take h).drop l = byD ((b.take h).drop l) := by simp [byD]
theorem IdxG.by {n : Int} {b : List UInt8} {C : List D → Prop} (j : Nat) (c : UInt8) (h1 : n = (j : Int)) (h2 : b[j]? = some c) (h : C [.v (.int .u8 c.toNat)]) : IdxG n (byD b) C := .to j _ h1 (byD_get h2) h
theorem CutL.by {b : List UInt8} {pre : List (Nat × Ob)} {l h : Nat} {K : Kont} (b' : List UInt8) (h1 : l ≤ h) (h2 : h ≤ b.length) (e : (b.take h).drop l = b') (hK : K (.ret (.list 1 (byD b')) []) pre) : CutL 1 (byD b) pre l h K :=
  .to _ h1 (by rw [byD_length]; exact h2) (by rw [byD_cut, e]) hK
theorem StrG.by {b : List UInt8} {pre : List (Nat × Ob)} {K : Kont} (h : K (.ret (.v (str b)) []) pre) : StrG (byD b) pre K := .to b rfl h
theorem decT {p : Prop} [Decidable p] (h : decide p = true) : p := of_decide_eq_true h
theorem decF {p : Prop} [Decidable p] (h : decide p = false) : ¬ p := of_decide_eq_false h
theorem notT {b : Bool} (h : (!b) = true) : b = false := by cases b <;> simp_all
theorem notF {b : Bool} (h : (!b) = false) : b = true := by cases b <;> simp_all
end Go.Dm
namespace Go.Dm
/-! ### The rules of code, by plain recursors: what is unfolded of them is, sign for sign, what the kernel unfolds -/
def seqB (C : Ctx) (news : List Nat) (ops : List Oper) (Qp : D → Fr → Mem → Prop) (o : Oper) (ih : Fr → Mem → List (Nat × Bool) → (Fr → Mem → Prop) → Prop) (fr : Fr) (M : Mem) (dec : List (Nat × Bool)) (K : Fr → Mem → Prop) : Prop :=
  let run := fun (fr : Fr) (dec : List (Nat × Bool)) => opW C fr M news o fun out pre => match out with
    | .ret d post => match freshB fr M (newIds pre post) with
      | true => ih (putD o.dst d fr) (post ++ M) (delO o.dst dec) K
      | false => False
    | .pan d => Qp d fr (delM pre M)
  let skip := fun (fr : Fr) (dec : List (Nat × Bool)) => ih (putD o.dst (.v undef) fr) M (delO o.dst dec) K
  match o.guard with
  | none => run fr dec
  | some (g, want) => match nth ops g with
    | some og => match og.dst with
      | some t => match get dec t with
        | some b => match b == want with
          | true => run fr dec
          | false => skip fr dec
        | none => match gd fr t with
          | .v (.bool b) => Split b (match want with | true => run ((t, .v (.bool true)) :: fr) ((t, true) :: dec) | false => skip ((t, .v (.bool true)) :: fr) ((t, true) :: dec))
            (match want with | true => skip ((t, .v (.bool false)) :: fr) ((t, false) :: dec) | false => run ((t, .v (.bool false)) :: fr) ((t, false) :: dec))
          | .v (.tuple _) => skip fr dec
          | _ => False
      | none => False
    | none => False
noncomputable def seqR (C : Ctx) (news : List Nat) (ops : List Oper) (Qp : D → Fr → Mem → Prop) (l : List Oper) : Fr → Mem → List (Nat × Bool) → (Fr → Mem → Prop) → Prop :=
  List.rec (motive := fun _ => Fr → Mem → List (Nat × Bool) → (Fr → Mem → Prop) → Prop) (fun fr M _ K => K fr M) (fun o _ ih => seqB C news ops Qp o ih) l
theorem seqR_eq (C : Ctx) (news : List Nat) (ops : List Oper) (Qp : D → Fr → Mem → Prop) : ∀ l, seqR C news ops Qp l = seqW C news ops Qp l
  | [] => by funext fr M dec K; rfl
  | o :: os => by
    funext fr M dec K
    show seqB C news ops Qp o (seqR C news ops Qp os) fr M dec K = _
    rw [seqR_eq C news ops Qp os]
    rfl
def drawB (C : Ctx) (news : List Nat) (ops : List Oper) (Qp : D → Fr → Mem → Prop) (o : Oper) (ih : Nat → Fr → Mem → List (Nat × Bool) → List Nat → List Foot → (Fr → Mem → List Nat → List Foot → Prop) → Prop)
    (i : Nat) (fr : Fr) (M : Mem) (dec : List (Nat × Bool)) (dead : List Nat) (fp : List Foot) (K : Fr → Mem → List Nat → List Foot → Prop) : Prop :=
  match anyIn (edges o) dead with
  | true => ih (i + 1) (putD o.dst .bot fr) M (delO o.dst dec) (i :: dead) (fp ++ [([], [])]) K
  | false =>
    let run := fun (fr : Fr) (dec : List (Nat × Bool)) => opW C fr M news o fun out pre => match out with
      | .ret d post => match subN (newIds pre post) (regNews news [o]) with
        | true => ih (i + 1) (putD o.dst d fr) (post ++ M) (delO o.dst dec) dead (fp ++ [foot pre post]) K
        | false => False
      | .pan d => Qp d [] [] ∧ ih (i + 1) (putD o.dst .bot fr) M (delO o.dst dec) (i :: dead) (fp ++ [(pre.map (·.1), pre.map (·.1))]) K
    let skip := fun (fr : Fr) (dec : List (Nat × Bool)) => ih (i + 1) (putD o.dst (.v undef) fr) M (delO o.dst dec) dead (fp ++ [([], [])]) K
    match o.guard with
    | none => run fr dec
    | some (g, want) => match nth ops g with
      | some og => match og.dst with
        | some t => match get dec t with
          | some b => match b == want with
            | true => run fr dec
            | false => skip fr dec
          | none => match gd fr t with
            | .v (.bool b) => Split b (match want with | true => run ((t, .v (.bool true)) :: fr) ((t, true) :: dec) | false => skip ((t, .v (.bool true)) :: fr) ((t, true) :: dec))
              (match want with | true => skip ((t, .v (.bool false)) :: fr) ((t, false) :: dec) | false => run ((t, .v (.bool false)) :: fr) ((t, false) :: dec))
            | .v (.tuple _) => skip fr dec
            | _ => False
        | none => False
      | none => False
noncomputable def drawR (C : Ctx) (news : List Nat) (ops : List Oper) (Qp : D → Fr → Mem → Prop) (l : List Oper) : Nat → Fr → Mem → List (Nat × Bool) → List Nat → List Foot → (Fr → Mem → List Nat → List Foot → Prop) → Prop :=
  List.rec (motive := fun _ => Nat → Fr → Mem → List (Nat × Bool) → List Nat → List Foot → (Fr → Mem → List Nat → List Foot → Prop) → Prop) (fun _ fr M _ dead fp K => K fr M dead fp) (fun o _ ih => drawB C news ops Qp o ih) l
theorem drawR_eq (C : Ctx) (news : List Nat) (ops : List Oper) (Qp : D → Fr → Mem → Prop) : ∀ l, drawR C news ops Qp l = drawW C news ops Qp l
  | [] => by funext i fr M dec dead fp K; rfl
  | o :: os => by
    funext i fr M dec dead fp K
    show drawB C news ops Qp o (drawR C news ops Qp os) i fr M dec dead fp K = _
    rw [drawR_eq C news ops Qp os]
    rfl
def regB (C : Ctx) (news : List Nat) (n : Nat) (Qp : D → Fr → Mem → Prop) (ops : Array Oper) (draw : Bool) (K : KK) (fr : Fr) (M : Mem) : Prop :=
  match dstOK n ops.toList with
  | true => match draw with
    | false => seqR C news ops.toList Qp ops.toList fr M [] (K .normal)
    | true => match regOK n news ops.toList fr M with
      | true => drawR C news ops.toList Qp ops.toList 0 fr M [] [] [] fun fr' M' dead fps => chk ops.toList fps = true ∧ (match dead with | [] => K .normal fr' M' | _ => True)
      | false => False
  | false => False
def condB (c : Operand) (X Y : KK → Fr → Mem → Prop) (K : KK) (fr : Fr) (M : Mem) : Prop := match ev fr c with
  | .v (.bool b) => Split b (X K (setc fr c true) M) (Y K (setc fr c false) M)
  | _ => False
noncomputable def awpR (C : Ctx) (news : List Nat) (n : Nat) (Qp : D → Fr → Mem → Prop) (rec : Code → KK → Fr → Mem → Prop) (c : Code) : KK → Fr → Mem → Prop :=
  Code.rec (motive := fun _ => KK → Fr → Mem → Prop)
    (fun K fr M => K .normal fr M)
    (fun _ ops draw K fr M => regB C news n Qp ops draw K fr M)
    (fun _ _ X Y K fr M => X (thenK (Y K) K) fr M)
    (fun c _ _ X Y K fr M => condB c X Y K fr M)
    (fun id _ X K fr M => X (blockK id K) fr M)
    (fun _ X K fr M => LoopW X K fr M)
    (fun _ _ _ _ _ _ _ _ _ => False)
    (fun id K fr M => K (.exit id) fr M)
    (fun x _ K fr M => ScopeW rec x K fr M)
    (fun _ K fr M => K .normal fr M)
    (fun l K fr M => K (.goto l) fr M)
    (fun K fr M => K .ret fr M)
    (fun _ _ _ _ => False) c
theorem awpR_eq (C : Ctx) (news : List Nat) (n : Nat) (Qp : D → Fr → Mem → Prop) (rec : Code → KK → Fr → Mem → Prop) : ∀ c, awpR C news n Qp rec c = awpS C news n Qp rec c
  | .skip | .label _ | .exit _ | .goto _ | .ret | .refuse _ | .rangeFunc .. | .scope _ => by funext K fr M; rfl
  | .region _ ops draw => by
    funext K fr M
    show regB C news n Qp ops draw K fr M = _
    unfold regB
    rw [seqR_eq, drawR_eq]
    rfl
  | .seq x y => by
    funext K fr M
    show awpR C news n Qp rec x (thenK (awpR C news n Qp rec y K) K) fr M = _
    rw [awpR_eq C news n Qp rec x, awpR_eq C news n Qp rec y]
    rfl
  | .cond c x y => by
    funext K fr M
    show condB c (awpR C news n Qp rec x) (awpR C news n Qp rec y) K fr M = _
    rw [awpR_eq C news n Qp rec x, awpR_eq C news n Qp rec y]
    rfl
  | .block id x => by
    funext K fr M
    show awpR C news n Qp rec x (blockK id K) fr M = _
    rw [awpR_eq C news n Qp rec x]
    rfl
  | .loop x => by
    funext K fr M
    show LoopW (awpR C news n Qp rec x) K fr M = _
    rw [awpR_eq C news n Qp rec x]
    rfl
noncomputable def awq (C : Ctx) (news : List Nat) (n : Nat) (Qp : D → Fr → Mem → Prop) (c : Code) (K : KK) (fr : Fr) (M : Mem) : Prop :=
  awpR C news n Qp (awpR C news n Qp fun _ _ _ _ => False) c K fr M
theorem awq_eq (C : Ctx) (news : List Nat) (n : Nat) (Qp : D → Fr → Mem → Prop) : awq C news n Qp = awp C news n Qp := by
  funext c K fr M
  unfold awq awp
  rw [awpR_eq, show awpR C news n Qp (fun _ _ _ _ => False) = awpS C news n Qp (fun _ _ _ _ => False) from funext (awpR_eq _ _ _ _ _)]
/-! The contracts, by these rules -/
theorem pcall_ofR {C : Ctx} (hC : C.OK) {f : FuncId} {fn : Func} {c : Code} {news : List Nat} {pre : Mem} {ds : List D} {out : Out} {n : Nat} {rs : List ResultVar}
    (hf : C.P.funcs[f]? = some fn) (hb : fn.body = some c) (hn : fn.ntmps = n) (hts : fn.results.toList = rs) (hlen : (match Nat.ble ds.length n with | true => Nat.ble n 99999 | false => false) = true)
    (hid : pre.all (fun p => Nat.ble 1000 p.1) = true) (hnm : fn.name ≠ "runtime.NumGoroutine")
    (h : awq C news n (fun d _ _ => ∃ e, out = .pan e ∧ (d = e ∧ within (pre.map (·.1)) e = true ∨ ∃ p, purify [] d = some (e, p))) c (funK C.L pre rs out) (argsFr 0 ds) pre) : PCall C.P f pre ds out :=
  pcall_of hC hf hb hn hts hlen hid hnm (by rw [← awq_eq]; exact h)
theorem pcall_genR {C : Ctx} (hC : C.OK) {f : FuncId} {fn : Func} {c : Code} {news : List Nat} {pre : Mem} {ds : List D} {out : Out} {n : Nat} {rs : List ResultVar} (hf : C.P.funcs[f]? = some fn) (hb : fn.body = some c) (hn : fn.ntmps = n) (hts : fn.results.toList = rs)
    (hlen : (match Nat.ble ds.length n with | true => Nat.ble n 99999 | false => false) = true) (hid : pre.all (fun p => Nat.ble 1000 p.1) = true) (hnm : fn.name ≠ "runtime.NumGoroutine") (fr0 : Int → Fr)
    (hfr : ∀ m t, gd (fr0 m) t = gd (argsFr 0 ds) t ∨ (t = 100000 + maxLenG ∧ gd (fr0 m) t = .ptr [.v (.int .i64 m)]))
    (h : ∀ m, awq C news n (fun d _ _ => ∃ e, out = .pan e ∧ (d = e ∧ within (pre.map (·.1)) e = true ∨ ∃ p, purify [] d = some (e, p))) c (funK C.L pre rs out) (fr0 m) pre) : PCall C.P f pre ds out :=
  pcall_gen hC hf hb hn hts hlen hid hnm fr0 hfr fun m => by rw [← awq_eq]; exact h m
theorem dcall_ofR {C : Ctx} (hC : C.OK) {f : FuncId} {fn : Func} {rest : Code} {news : List Nat} {m : Option D} {pre post : Mem} {ds : List D} {n id t s : Nat} {t1 t2 : TypeId} {p1 p2 : String} {a1 a2 : Array Edge}
    (hf : C.P.funcs[f]? = some fn) (hb : fn.body = some (.seq (.region id #[⟨some t, .call ⟨.builtin .recover, #[], #[]⟩, t1, p1, a1, none⟩, ⟨some s, .assign (.tmp t), t2, p2, a2, none⟩] false) rest)) (hn : fn.ntmps = n) (hts : fn.results.toList = [])
    (hlen : (match Nat.ble ds.length n with | true => Nat.ble n 99999 | false => false) = true) (ht : (match Nat.blt t n with | true => Nat.blt s n | false => false) = true)
    (hid : pre.all (fun p => Nat.ble 1000 p.1) = true) (hpp : post.map (·.1) = pre.map (·.1)) (hnm : fn.name ≠ "runtime.NumGoroutine")
    (h : awq C news n (fun _ _ _ => False) rest (funK C.L pre [] (.ret (.tup []) post)) ((s, recD m) :: (t, recD m) :: argsFr 0 ds) pre) : DCall C.P f m pre ds post :=
  dcall_of hC hf hb hn hts hlen ht hid hpp hnm (by rw [← awq_eq]; exact h)
def defKR (C : Ctx) (news : List Nat) (n : Nat) (g : FuncId) (t : Tmp) (caps : List Operand) (rest : Code) (pre : Mem) (rs : List ResultVar) (out : Out) : KK
  | .normal, fr, M => awq C news n (DefPan C g pre rs out) rest (defKK C g pre rs out) ((99999, .fn (.func g) (evs fr caps)) :: (t, .fn (.func g) (evs fr caps)) :: fr) M
  | _, _, _ => False
theorem pcall_deferR {C : Ctx} (hC : C.OK) {f : FuncId} {fn : Func} {c0 rest : Code} {news : List Nat} {pre : Mem} {ds : List D} {out : Out} {n : Nat} {rs : List ResultVar} {id t g : Nat} {caps : Array Operand} {t1 t2 : TypeId} {p1 p2 : String} {a1 a2 : Array Edge}
    (hf : C.P.funcs[f]? = some fn) (hb : fn.body = some (.seq c0 (.seq (.region id #[⟨some t, .makeFunc (.func g) #[] caps, t1, p1, a1, none⟩, ⟨none, .defer ⟨.value (.tmp t), #[], #[]⟩, t2, p2, a2, none⟩] false) rest))) (hn : fn.ntmps = n) (hts : fn.results.toList = rs)
    (hlen : (match Nat.ble ds.length n with | true => Nat.ble n 99999 | false => false) = true) (ht : Nat.blt t n = true) (hid : pre.all (fun p => Nat.ble 1000 p.1) = true) (hnm : fn.name ≠ "runtime.NumGoroutine")
    (h : awq C news n (fun _ _ _ => False) c0 (defKR C news n g t caps.toList rest pre rs out) (argsFr 0 ds) pre) : PCall C.P f pre ds out := by
  have e : defKR C news n g t caps.toList rest pre rs out = defK C news n g t caps.toList rest pre rs out := by
    funext x fr M
    cases x with
    | normal =>
      show awq C news n _ _ _ _ _ = awp C news n _ _ _ _ _
      rw [awq_eq]
    | _ => rfl
  rw [e] at h
  exact pcall_defer hC hf hb hn hts hlen ht hid hnm (by rw [← awq_eq]; exact h)
/-! Short names for what the walks say most -/
theorem aB {a b : Nat} {Q : Prop} (h : Nat.ble a b = true) (q : Q) : a ≤ b ∧ Q := ⟨Nat.le_of_ble_eq_true h, q⟩
theorem sY {b : Bool} {X Y : Prop} (h : b = true) (x : X) : Split b X Y := .yes h x
theorem sN {b : Bool} {X Y : Prop} (h : b = false) (y : Y) : Split b X Y := .no h y
theorem sM {b : Bool} {X Y : Prop} (x : b = true → X) (y : b = false → Y) : Split b X Y := .mk x y
theorem cK {ops : List Oper} {fps : List Foot} {Q : Prop} (h : chk ops fps = true) (q : Q) : chk ops fps = true ∧ Q := ⟨h, q⟩
end Go.Dm
namespace Go.Dm.Tryz
open Go.Proofs
noncomputable def cx : Ctx := ⟨Tryz.prog, tys⟩
theorem mixed : Tryz.prog.follows .mixedOrders = true := by kernel_rfl
theorem cxOK : cx.OK := ⟨(TyFrom_ok tysOK).1, (TyFrom_ok tysOK).2, mixed⟩
end Go.Dm.Tryz
namespace Go.Dm
/-! ### lex: names and literals -/
def letterS (c : Int) : Bool := decide (c = 95) || (decide (97 ≤ bitsV .or .u8 c 32) && decide (bitsV .or .u8 c 32 ≤ 122))
def innerS (c : Int) : Bool := letterS c || decide (c = 46) || (decide (48 ≤ c) && decide (c ≤ 57))
def NameS (s : List UInt8) : Bool := match s with
  | [] => false
  | c :: _ => decide (s.length ≤ 20) && (letterS c.toNat && s.all (fun c => innerS c.toNat))
theorem all_upto {α : Type} {p : α → Bool} {s : List α} (h : ∀ (k : Nat) (hk : k < s.length), p s[k] = true) : s.all p = true := by
  rw [List.all_eq_true]
  intro x hx
  obtain ⟨k, hk, rfl⟩ := List.mem_iff_getElem.1 hx
  exact h k hk
theorem all_not {α : Type} {p : α → Bool} {s : List α} (k : Nat) (hk : k < s.length) (h : p s[k] = false) : s.all p = false := by
  rw [← Bool.not_eq_true, List.all_eq_true]
  intro hh
  rw [hh s[k] (List.getElem_mem hk)] at h
  cases h
namespace Tryz
open Go.Proofs
theorem lexLetter (c : Int) : PCall Tryz.prog 57 [] [.v (.int .u8 c)] (.ret (.v (.bool (letterS c))) []) := by
  refine pcall_of (news := []) cxOK Tryz.func57 rfl Tryz.ntmps57 rfl rfl rfl (by decide) ?_
  repeat' ((conv => whnf); first | exact trivial | refine aB rfl ?_ | refine sY rfl ?_ | refine sN rfl ?_ | refine sM (fun _ => ?_) (fun _ => ?_) | refine KI.to _ rfl ?_ | refine cK (by kernel_rfl) ?_ | refine And.intro ?_ ?_ | exact Or.inl ⟨rfl, rfl⟩)
  all_goals (conv => whnf)
  all_goals (simp_all [letterS]; try omega)
theorem lexInner (c : Int) : PCall Tryz.prog 58 [] [.v (.int .u8 c)] (.ret (.v (.bool (innerS c))) []) := by
  refine pcall_of (news := []) cxOK Tryz.func58 rfl Tryz.ntmps58 rfl rfl rfl (by decide) ?_
  conv => whnf
  refine call0 (lexLetter _) ?_
  repeat' ((conv => whnf); first | exact trivial | refine aB rfl ?_ | refine sY rfl ?_ | refine sN rfl ?_ | refine sM (fun _ => ?_) (fun _ => ?_) | refine KI.to _ rfl ?_ | refine cK (by kernel_rfl) ?_ | refine And.intro ?_ ?_ | exact Or.inl ⟨rfl, rfl⟩)
  all_goals (conv => whnf)
  all_goals (simp_all [innerS]; try omega)
theorem lexName (s : List UInt8) : PCall Tryz.prog 29 [] [.v (str s)] (.ret (.v (.bool (NameS s))) []) := by
  refine pcall_of (news := []) cxOK Tryz.func29 rfl Tryz.ntmps29 rfl rfl rfl (by decide) ?_
  repeat' ((conv => whnf); first | exact trivial | refine aB rfl ?_ | refine sY rfl ?_ | refine sN rfl ?_ | refine sM (fun _ => ?_) (fun _ => ?_) | refine KI.to _ rfl ?_ | refine cK (by kernel_rfl) ?_ | refine And.intro ?_ ?_ | exact Or.inl ⟨rfl, rfl⟩)
  all_goals (conv => whnf)
  · rename_i h
    have := strEq_iff.1 h
    subst this; rfl
  · rename_i h0 h
    cases s with
    | nil => rfl
    | cons c s =>
      have h' : ((c :: s).length : Int) > 20 := of_decide_eq_true h
      have : ¬ (c :: s).length ≤ 20 := by omega
      simp only [NameS, decide_eq_false this, Bool.false_and]
  rename_i h0 h
  have h0 := strEq_ff.1 h0
  cases s with
  | nil => exact absurd rfl h0
  | cons c s =>
  have hl : (c :: s).length ≤ 20 := by
    have : ¬ (((c :: s).length : Int) > 20) := of_decide_eq_false h
    omega
  refine ChrG.to 0 c rfl rfl ?_
  conv => whnf
  refine call0 (lexLetter _) ?_
  repeat' ((conv => whnf); first | exact trivial | refine aB rfl ?_ | refine sY rfl ?_ | refine sN rfl ?_ | refine sM (fun _ => ?_) (fun _ => ?_) | refine cK (by kernel_rfl) ?_ | refine And.intro ?_ ?_ | exact Or.inl ⟨rfl, rfl⟩ | exact rfl)
  all_goals (conv => whnf)
  · rename_i h1
    have h1 : letterS c.toNat = false := by simpa using h1
    simp only [NameS, h1, Bool.false_and, Bool.and_false]
  rename_i hlet
  have hlet : letterS c.toNat = true := by simpa using hlet
  refine LoopW.to (ι := Nat) (fun i => i ≤ (c :: s).length ∧ ∀ k (hk : k < (c :: s).length), k < i → innerS (c :: s)[k].toNat = true) (fun i => (c :: s).length - i)
    (fun i => [(0, .v (str (c :: s))), (18, .v (.int .i64 (c :: s).length)), (19, .v (.int .i64 i))]) (fun _ => []) [] 0 ⟨Nat.zero_le _, fun k _ h => by omega⟩ ⟨⟨rfl, rfl, rfl, trivial⟩, trivial⟩ ?_
  rintro i ⟨hi, hk⟩
  repeat' ((conv => whnf); first | exact trivial | refine aB rfl ?_ | refine sY rfl ?_ | refine sN rfl ?_ | refine sM (fun _ => ?_) (fun _ => ?_) | refine cK (by kernel_rfl) ?_ | refine And.intro ?_ ?_ | exact Or.inl ⟨rfl, rfl⟩ | exact rfl)
  all_goals (conv => whnf)
  · rename_i hlt
    have hlt : i < (c :: s).length := by have := of_decide_eq_true hlt; omega
    refine ChrG.to i (c :: s)[i] rfl (by simp) ?_
    conv => whnf
    refine call0 (lexInner _) ?_
    repeat' ((conv => whnf); first | exact trivial | refine aB rfl ?_ | refine sY rfl ?_ | refine sN rfl ?_ | refine sM (fun _ => ?_) (fun _ => ?_) | refine cK (by kernel_rfl) ?_ | refine And.intro ?_ ?_ | exact Or.inl ⟨rfl, rfl⟩ | exact rfl)
    all_goals (conv => whnf)
    · rename_i h1
      have h1 : innerS (c :: s)[i].toNat = false := by simpa using h1
      simp only [NameS, all_not (p := fun c : UInt8 => innerS c.toNat) i hlt h1, Bool.and_false]
    · rename_i h1
      have h1 : innerS (c :: s)[i].toNat = true := by simpa using h1
      refine KI.i64 ((i + 1 : Nat) : Int) (by simp) (by omega) ?_
      conv => whnf
      refine NextG.to (i + 1) ⟨by omega, fun k hk1 hk2 => ?_⟩ (by omega) ⟨⟨rfl, rfl, rfl, trivial⟩, trivial⟩
      by_cases e : k = i
      · subst e; exact h1
      · exact hk k hk1 (by omega)
  · rename_i hlt
    have hlt : i = (c :: s).length := by have := of_decide_eq_false hlt; omega
    have := all_upto (p := fun c : UInt8 => innerS c.toNat) (s := c :: s) fun k h => hk k h (by omega)
    simp only [NameS, decide_eq_true hl, hlet, this, Bool.true_and]
end Tryz
end Go.Dm
namespace Go.Dm
/-! ### The library's functions on bytes -/
theorem run_indexByteEmpty {P : Program} {w : World} (a : Addr) (c : Nat) (cv : Int) :
    (Extern.BytealgIndexByte.indexByte #[.slice (some a) 0 c, .int .u8 cv]).run P w = .ok (.int .i64 (-1)) w := by
  have hs := Lib.run_indexByteNil (P := P) w 0 0 cv
  exact hs
theorem list_by {b : List UInt8} {E : Env} {v : Value} (h : rel (.list 1 (byD b)) E v) : ∃ a cap, v = .slice a b.length cap ∧ b.length ≤ cap ∧ (b ≠ [] → ∃ k o, a = some ⟨k, o, none⟩ ∧ ∀ i, i < b.length → E.im k (o + i) = some (.int .u8 ((b.map fun c => (c.toNat : Int)).getD i 0))) := by
  obtain ⟨a, cap, h1, h2, h3⟩ := h
  rw [byD_length] at h1 h2
  refine ⟨a, cap, h1, h2, fun hne => ?_⟩
  obtain ⟨k, o, h4, h5⟩ := h3 (by intro e; apply hne; cases b with | nil => rfl | cons _ _ => simp [byD] at e)
  exact ⟨k, o, h4, fun i hi => relRow_byD h5 i hi⟩
theorem bytesOf_nat (b : List UInt8) : Lib.bytesOf (b.map fun c => (c.toNat : Int)) = b := by
  simp [Lib.bytesOf, List.map_map, Function.comp_def]
namespace Tryz
open Go.Proofs
theorem eIndexByte {g : D} (b : List UInt8) (c : UInt8) : ECall Tryz.prog g 153 [.list 1 (byD b), .v (.int .u8 c.toNat)] (.v (.int .i64 (Lib.indexByte b c))) := by
  intro E w vs hi _ ⟨v, ws, e1, h1, u, ws', e2, h2, e3⟩
  subst e1; subst e2; subst e3
  obtain ⟨a, cap, rfl, h4, h5⟩ := list_by h1
  obtain rfl : u = _ := h2
  have hrun : (Extern.BytealgIndexByte.indexByte #[.slice a b.length cap, .int .u8 c.toNat]).run Tryz.prog w = .ok (.int .i64 (Lib.indexByte b c)) w := by
    cases b with
    | nil =>
      cases a with
      | none => exact Lib.run_indexByteNil w 0 cap _
      | some a => exact run_indexByteEmpty a cap _
    | cons d b =>
      obtain ⟨k, o, rfl, h6⟩ := h5 (by simp)
      have := Lib.run_indexByteSlice (P := Tryz.prog) w k o (d :: b).length cap ((d :: b).map fun c => (c.toNat : Int)) (by simp) (fun i hi' => hi _ _ _ (h6 i hi')) c.toNat
      rw [bytesOf_nat] at this
      have e : ((c.toNat : Nat) : Int).toNat.toUInt8 = c := by simp
      rw [e] at this
      exact this
  refine ⟨_, ?_, rfl⟩
  rw [run_callFunc_extern Tryz.func153 (by kernel_rfl) (by kernel_rfl) (by kernel_rfl) (e := Extern.BytealgIndexByte.indexByte) (by kernel_rfl)]
  show Result.andThen (Sem.run Tryz.prog (Extern.BytealgIndexByte.indexByte #[.slice a b.length cap, .int .u8 c.toNat]) w) _ = _
  rw [hrun]
  rfl
theorem bytesIndexByte (b : List UInt8) (c : UInt8) : PCall Tryz.prog 111 [] [.list 1 (byD b), .v (.int .u8 c.toNat)] (.ret (.v (.int .i64 (Lib.indexByte b c))) []) := by
  refine pcall_of (news := []) cxOK Tryz.func111 rfl Tryz.ntmps111 rfl rfl rfl (by decide) ?_
  conv => whnf
  exact callE (eIndexByte b c) rfl
theorem bytesEqual (a b : List UInt8) : PCall Tryz.prog 154 [] [.list 1 (byD a), .list 1 (byD b)] (.ret (.v (.bool (decide (a = b)))) []) := by
  refine pcall_of (news := []) cxOK Tryz.func154 rfl Tryz.ntmps154 rfl rfl rfl (by decide) ?_
  conv => whnf
  refine StrG.by ?_
  conv => whnf
  refine StrG.by ?_
  conv => whnf
  refine congrArg Value.bool ?_
  by_cases h : a = b
  · rw [decide_eq_true h]; exact strEq_iff.2 h
  · rw [decide_eq_false h]; exact strEq_ff.2 h
theorem bytesHasPrefix (a b : List UInt8) : PCall Tryz.prog 112 [] [.list 1 (byD a), .list 1 (byD b)] (.ret (.v (.bool (b.isPrefixOf a))) []) := by
  refine pcall_of (news := []) cxOK Tryz.func112 rfl Tryz.ntmps112 rfl rfl rfl (by decide) ?_
  repeat' ((conv => whnf); first | exact trivial | refine aB rfl ?_ | refine sY rfl ?_ | refine sN rfl ?_ | refine sM (fun _ => ?_) (fun _ => ?_) | refine cK (by kernel_rfl) ?_ | refine And.intro ?_ ?_ | exact Or.inl ⟨rfl, rfl⟩ | exact rfl)
  all_goals (conv => whnf)
  · rename_i h
    have h := decT h
    rw [byD_length, byD_length] at h
    refine BndG.to b.length (by rw [byD_length]) ?_
    refine CutL.by (a.take b.length) (Nat.zero_le _) (by omega) rfl ?_
    conv => whnf
    refine call0 (bytesEqual _ _) ?_
    conv => whnf
    refine congrArg Value.bool ?_
    show (bif true then decide (a.take b.length = b) else false) = _
    rw [cond_true]
    rw [Bool.eq_iff_iff, decide_eq_true_eq, List.isPrefixOf_iff_prefix, List.prefix_iff_eq_take]
    exact eq_comm
  · rename_i h
    have h := decF h
    rw [byD_length, byD_length] at h
    refine congrArg Value.bool ?_
    show false = _
    symm
    rw [← Bool.not_eq_true, List.isPrefixOf_iff_prefix]
    intro hp
    have := hp.length_le
    omega
end Tryz
end Go.Dm
namespace Go.Dm
/-! ### lex: literals, words, runs -/
def plainS (c : Int) : Bool := decide (32 ≤ c) && (decide (c ≤ 126) && (!decide (c = 39) && !decide (c = 92)))
def escapedS (c : Int) : Bool := decide (c = 110) || (decide (c = 116) || (decide (c = 92) || decide (c = 39)))
def smallS (c : Int) : Bool := decide (97 ≤ c) && decide (c ≤ 122)
/-- The last quote of a literal. -/
def litEnd (b : List UInt8) (n : Nat) : Nat × Nat := match b[n]? with
  | none => (0, 4)
  | some c => match decide ((c.toNat : Int) = 39) with
    | true => (n + 1, 0)
    | false => (0, 3)
def literalS (b : List UInt8) : Nat × Nat := match b with
  | _ :: c :: r => match plainS c.toNat with
    | true => litEnd b 2
    | false => match decide ((c.toNat : Int) = 92) with
      | false => (0, 3)
      | true => match r with
        | [] => (0, 4)
        | d :: _ => match escapedS d.toNat with
          | false => (0, 3)
          | true => litEnd b 3
  | _ => (0, 4)
def LiteralS (s : List UInt8) : Bool := match s with
  | [] => false
  | c :: _ => match decide ((c.toNat : Int) = 39) with
    | false => false
    | true => decide ((literalS s).2 = 0) && decide ((literalS s).1 = s.length)
def spanS (p : UInt8 → Bool) : List UInt8 → Nat
  | [] => 0
  | c :: r => match p c with
    | true => spanS p r + 1
    | false => 0
def runS (p : UInt8 → Bool) (b : List UInt8) : Nat := match b with
  | [] => 1
  | _ :: r => spanS p r + 1
def lineS (b : List UInt8) : Nat := match decide (0 ≤ Lib.indexByte b 10) with
  | true => (Lib.indexByte b 10).toNat
  | false => b.length
def textGo (q : UInt8) : List UInt8 → Nat → Bool → Nat
  | [], _, _ => 0
  | _ :: r, i, true => textGo q r (i + 1) false
  | c :: r, i, false => match decide ((c.toNat : Int) = q.toNat) with
    | true => i + 1
    | false => textGo q r (i + 1) (decide ((c.toNat : Int) = 92))
def textS (b : List UInt8) : Nat := match b with
  | [] => 0
  | q :: r => textGo q r 1 false
theorem u8_int {c : UInt8} {n : Nat} (hn : n < 256) : ((c.toNat : Int) = (n : Int)) ↔ c = UInt8.ofNat n := by
  constructor
  · intro h
    have : c.toNat = n := by omega
    rw [← this]; simp
  · intro h; subst h; simp; omega
theorem spanS_drop {p : UInt8 → Bool} : ∀ {b : List UInt8} {i : Nat}, (∀ k, k < i → ∀ c, b[k]? = some c → p c = true) → i ≤ b.length → spanS p b = i + spanS p (b.drop i)
  | b, 0, _, _ => by simp
  | [], i + 1, _, h => by simp at h
  | c :: r, i + 1, h, hl => by
    have h0 := h 0 (by omega) c rfl
    have := spanS_drop (p := p) (b := r) (i := i) (fun k hk d hd => h (k + 1) (by omega) d (by simpa using hd)) (by simpa using hl)
    simp only [spanS, h0, List.drop_succ_cons]
    omega
def litD (p : Nat × Nat) : D := .tup [.v (.int .i64 p.1), .v (.int .i64 p.2)]
namespace Tryz
open Go.Proofs
theorem lexPlain (c : Int) : PCall Tryz.prog 140 [] [.v (.int .u8 c)] (.ret (.v (.bool (plainS c))) []) := by
  refine pcall_of (news := []) cxOK Tryz.func140 rfl Tryz.ntmps140 rfl rfl rfl (by decide) ?_
  repeat' ((conv => whnf); first | exact trivial | refine aB rfl ?_ | refine sY rfl ?_ | refine sN rfl ?_ | refine sM (fun _ => ?_) (fun _ => ?_) | refine KI.to _ rfl ?_ | refine cK (by kernel_rfl) ?_ | refine And.intro ?_ ?_ | exact Or.inl ⟨rfl, rfl⟩)
  all_goals (conv => whnf)
  all_goals (simp_all [plainS]; try omega)
theorem lexEscaped (c : Int) : PCall Tryz.prog 141 [] [.v (.int .u8 c)] (.ret (.v (.bool (escapedS c))) []) := by
  refine pcall_of (news := []) cxOK Tryz.func141 rfl Tryz.ntmps141 rfl rfl rfl (by decide) ?_
  repeat' ((conv => whnf); first | exact trivial | refine aB rfl ?_ | refine sY rfl ?_ | refine sN rfl ?_ | refine sM (fun _ => ?_) (fun _ => ?_) | refine KI.to _ rfl ?_ | refine cK (by kernel_rfl) ?_ | refine And.intro ?_ ?_ | exact Or.inl ⟨rfl, rfl⟩)
  all_goals (conv => whnf)
  all_goals (simp_all [escapedS]; try omega)
theorem lexSmall (c : Int) : PCall Tryz.prog 118 [] [.v (.int .u8 c)] (.ret (.v (.bool (smallS c))) []) := by
  refine pcall_of (news := []) cxOK Tryz.func118 rfl Tryz.ntmps118 rfl rfl rfl (by decide) ?_
  repeat' ((conv => whnf); first | exact trivial | refine aB rfl ?_ | refine sY rfl ?_ | refine sN rfl ?_ | refine sM (fun _ => ?_) (fun _ => ?_) | refine KI.to _ rfl ?_ | refine cK (by kernel_rfl) ?_ | refine And.intro ?_ ?_ | exact Or.inl ⟨rfl, rfl⟩)
  all_goals (conv => whnf)
  all_goals (simp_all [smallS]; try omega)
theorem byD_none {b : List UInt8} {n : Nat} (h : decide (((byD b).length : Int) ≤ (n : Int)) = true) : b[n]? = none := by
  have h := decT h
  rw [byD_length] at h
  exact List.getElem?_eq_none (by omega)
theorem byD_some {b : List UInt8} {n : Nat} (h : decide (((byD b).length : Int) ≤ (n : Int)) = false) : ∃ c, b[n]? = some c := by
  have h := decF h
  rw [byD_length] at h
  exact ⟨b[n], List.getElem?_eq_getElem (by omega)⟩
set_option maxHeartbeats 1000000 in
theorem lexliteral (b : List UInt8) : PCall Tryz.prog 107 [] [.list 1 (byD b)] (.ret (litD (literalS b)) []) := by
  refine pcall_of (news := []) cxOK Tryz.func107 rfl Tryz.ntmps107 rfl rfl rfl (by decide) ?_
  repeat' ((conv => whnf); first | exact trivial | refine aB rfl ?_ | refine sY rfl ?_ | refine sN rfl ?_ | refine sM (fun _ => ?_) (fun _ => ?_) | refine cK (by kernel_rfl) ?_ | refine And.intro ?_ ?_ | exact Or.inl ⟨rfl, rfl⟩ | exact rfl)
  all_goals (conv => whnf)
  · rename_i h
    have h := decT h
    rw [byD_length] at h
    match b, h with
    | [], _ => rfl
    | [_], _ => rfl
    | _ :: _ :: _, h => simp at h; omega
  · rename_i h
    have h := decT h
    rw [byD_length] at h
    match b, h with
    | [], _ => rfl
    | [_], _ => rfl
    | _ :: _ :: _, h => simp at h; omega
  rename_i h
  have h := decF h
  rw [byD_length] at h
  match b, h with
  | [], h => exact absurd (by simp) h
  | [_], h => exact absurd (by simp) h
  | q :: c :: r, _ =>
  refine IdxG.by 1 c rfl rfl ?_
  conv => whnf
  refine call0 (lexPlain _) ?_
  repeat' ((conv => whnf); first | exact trivial | refine aB rfl ?_ | refine sY rfl ?_ | refine sN rfl ?_ | refine sM (fun _ => ?_) (fun _ => ?_) | refine cK (by kernel_rfl) ?_ | refine And.intro ?_ ?_ | exact Or.inl ⟨rfl, rfl⟩ | exact rfl)
  all_goals (conv => whnf)
  · rename_i hp h2
    simp only [literalS, hp, litEnd, byD_none (n := 2) h2]; rfl
  · rename_i hp h2
    simp only [literalS, hp, litEnd, byD_none (n := 2) h2]; rfl
  · rename_i hp h2
    obtain ⟨d, hd⟩ := byD_some (n := 2) h2
    refine IdxG.by 2 d rfl hd ?_
    repeat' ((conv => whnf); first | exact trivial | refine aB rfl ?_ | refine sY rfl ?_ | refine sN rfl ?_ | refine sM (fun _ => ?_) (fun _ => ?_) | refine KI.to _ rfl ?_ | refine cK (by kernel_rfl) ?_ | refine And.intro ?_ ?_ | exact Or.inl ⟨rfl, rfl⟩)
    all_goals (conv => whnf)
    all_goals (rename_i h3; first | have h3 := notT h3 | have h3 := notF h3)
    all_goals (have hs : literalS (q :: c :: r) = litEnd (q :: c :: r) 2 := by simp only [literalS, hp])
    all_goals (simp only [hs, litEnd, hd, h3]; rfl)
  rename_i hp
  refine IdxG.by 1 c rfl rfl ?_
  repeat' ((conv => whnf); first | exact trivial | refine aB rfl ?_ | refine sY rfl ?_ | refine sN rfl ?_ | refine sM (fun _ => ?_) (fun _ => ?_) | refine cK (by kernel_rfl) ?_ | refine And.intro ?_ ?_ | exact Or.inl ⟨rfl, rfl⟩ | exact rfl)
  all_goals (conv => whnf)
  · rename_i h2
    have h2 := notT h2
    simp only [literalS, hp, h2]; rfl
  · rename_i h2
    have h2 := notT h2
    simp only [literalS, hp, h2]; rfl
  · rename_i h2 h3
    have h2 := notF h2
    have h3 := decT h3
    rw [byD_length] at h3
    cases r with
    | nil => simp only [literalS, hp, h2]; rfl
    | cons d r => simp at h3; omega
  · rename_i h2 h3
    have h2 := notF h2
    have h3 := decT h3
    rw [byD_length] at h3
    cases r with
    | nil => simp only [literalS, hp, h2]; rfl
    | cons d r => simp at h3; omega
  · rename_i h2 h3
    have h2 := notF h2
    have h3 := decF h3
    rw [byD_length] at h3
    cases r with
    | nil => simp at h3
    | cons d r =>
    refine IdxG.by 2 d rfl rfl ?_
    conv => whnf
    refine call0 (lexEscaped _) ?_
    repeat' ((conv => whnf); first | exact trivial | refine aB rfl ?_ | refine sY rfl ?_ | refine sN rfl ?_ | refine sM (fun _ => ?_) (fun _ => ?_) | refine cK (by kernel_rfl) ?_ | refine And.intro ?_ ?_ | exact Or.inl ⟨rfl, rfl⟩ | exact rfl)
    all_goals (conv => whnf)
    · rename_i h4
      have h4 := notT h4
      simp only [literalS, hp, h2, h4]; rfl
    · rename_i h4
      have h4 := notT h4
      simp only [literalS, hp, h2, h4]; rfl
    · rename_i h4 h5
      have h4 := notF h4
      simp only [literalS, hp, h2, h4, litEnd, byD_none (n := 3) h5]; rfl
    · rename_i h4 h5
      have h4 := notF h4
      simp only [literalS, hp, h2, h4, litEnd, byD_none (n := 3) h5]; rfl
    · rename_i h4 h5
      have h4 := notF h4
      obtain ⟨e, he⟩ := byD_some (n := 3) h5
      refine IdxG.by 3 e rfl he ?_
      repeat' ((conv => whnf); first | exact trivial | refine aB rfl ?_ | refine sY rfl ?_ | refine sN rfl ?_ | refine sM (fun _ => ?_) (fun _ => ?_) | refine KI.to _ rfl ?_ | refine cK (by kernel_rfl) ?_ | refine And.intro ?_ ?_ | exact Or.inl ⟨rfl, rfl⟩)
      all_goals (conv => whnf)
      all_goals (rename_i h6; first | have h6 := notT h6 | have h6 := notF h6)
      all_goals (have hs : literalS (q :: c :: d :: r) = litEnd (q :: c :: d :: r) 3 := by simp only [literalS, hp, h2, h4])
      all_goals (simp only [hs, litEnd, he, h6]; rfl)
theorem lexLiteral (s : List UInt8) : PCall Tryz.prog 80 [] [.v (str s)] (.ret (.v (.bool (LiteralS s))) []) := by
  refine pcall_of (news := []) cxOK Tryz.func80 rfl Tryz.ntmps80 rfl rfl rfl (by decide) ?_
  repeat' ((conv => whnf); first | exact trivial | refine aB rfl ?_ | refine sY rfl ?_ | refine sN rfl ?_ | refine sM (fun _ => ?_) (fun _ => ?_) | refine cK (by kernel_rfl) ?_ | refine And.intro ?_ ?_ | exact Or.inl ⟨rfl, rfl⟩ | exact rfl)
  all_goals (conv => whnf)
  · rename_i h
    have := strEq_iff.1 h
    subst this; rfl
  rename_i h0
  cases s with
  | nil => exact absurd rfl (strEq_ff.1 h0)
  | cons c s =>
  refine ChrG.to 0 c rfl rfl ?_
  repeat' ((conv => whnf); first | exact trivial | refine aB rfl ?_ | refine sY rfl ?_ | refine sN rfl ?_ | refine sM (fun _ => ?_) (fun _ => ?_) | refine cK (by kernel_rfl) ?_ | refine And.intro ?_ ?_ | exact Or.inl ⟨rfl, rfl⟩ | exact rfl)
  all_goals (conv => whnf)
  · rename_i h
    have h : decide ((c.toNat : Int) = 39) = false := notT h
    simp only [LiteralS, h]
  · rename_i h
    have h : decide ((c.toNat : Int) = 39) = true := notF h
    refine call0 (lexliteral (c :: s)) ?_
    repeat' ((conv => whnf); first | exact trivial | refine aB rfl ?_ | refine sY rfl ?_ | refine sN rfl ?_ | refine sM (fun _ => ?_) (fun _ => ?_) | refine cK (by kernel_rfl) ?_ | refine And.intro ?_ ?_ | exact Or.inl ⟨rfl, rfl⟩ | exact rfl)
    all_goals (conv => whnf)
    · rename_i h1
      have h1 := decT h1
      have e1 : (literalS (c :: s)).2 = 0 := by omega
      refine congrArg Value.bool ?_
      show (bif true then decide (((literalS (c :: s)).1 : Int) = ((c :: s).length : Int)) else false) = _
      simp only [LiteralS, h, e1, cond_true]
      by_cases e : (literalS (c :: s)).1 = (c :: s).length
      · rw [decide_eq_true e, decide_eq_true (by rw [e])]; rfl
      · rw [decide_eq_false e, decide_eq_false (by omega)]; rfl
    · rename_i h1
      have h1 := decF h1
      have e1 : ¬ (literalS (c :: s)).2 = 0 := by omega
      simp only [LiteralS, h, decide_eq_false e1, Bool.false_and]
/-- A test on a byte, as a closure. -/
def FnByte (f : FuncId) (p : UInt8 → Bool) : Prop := ∀ c : UInt8, PCall Tryz.prog f [] [.v (.int .u8 c.toNat)] (.ret (.v (.bool (p c))) [])
theorem lexRun (b : List UInt8) (f : FuncId) (p : UInt8 → Bool) (hf : FnByte f p) (hb : b.length ≤ 4294967295) : PCall Tryz.prog 117 [] [.list 1 (byD b), .fn (.func f) []] (.ret (.v (.int .i64 (runS p b))) []) := by
  refine pcall_of (news := []) cxOK Tryz.func117 rfl Tryz.ntmps117 rfl rfl rfl (by decide) ?_
  conv => whnf
  refine LoopW.to (ι := Nat) (fun i => 1 ≤ i ∧ (1 < i → i ≤ b.length) ∧ ∀ k, 1 ≤ k → k < i → ∀ c, b[k]? = some c → p c = true) (fun i => b.length + 1 - i)
    (fun i => [(0, .list 1 (byD b)), (1, .fn (.func f) []), (5, .v (.int .i64 i))]) (fun _ => []) [] 1 ⟨Nat.le_refl _, fun h => by omega, fun k _ h => by omega⟩ ⟨⟨rfl, rfl, rfl, trivial⟩, trivial⟩ ?_
  rintro i ⟨h1, hle, hk⟩
  have stop : (∀ c, b[i]? = some c → p c = false) → i = runS p b := by
    intro hs
    cases b with
    | nil =>
      have : i = 1 := by
        rcases Nat.lt_or_ge 1 i with h | h
        · have := hle h; simp at this; omega
        · omega
      subst this; rfl
    | cons d r =>
      have hi : i - 1 ≤ r.length := by
        rcases Nat.lt_or_ge 1 i with h | h
        · have := hle h; simp at this; omega
        · omega
      have := spanS_drop (p := p) (b := r) (i := i - 1) (fun k hk' c hc => hk (k + 1) (by omega) (by omega) c (by simpa using hc)) hi
      have h2 : spanS p (r.drop (i - 1)) = 0 := by
        cases hd : r.drop (i - 1) with
        | nil => rfl
        | cons c t =>
          have : r[i - 1]? = some c := by
            have := congrArg (·[0]?) hd
            simpa using this
          have := hs c (by rw [show i = (i - 1) + 1 from by omega]; simpa using this)
          simp [spanS, this]
      simp only [runS]
      omega
  repeat' ((conv => whnf); first | exact trivial | refine aB rfl ?_ | refine sY rfl ?_ | refine sN rfl ?_ | refine sM (fun _ => ?_) (fun _ => ?_) | refine cK (by kernel_rfl) ?_ | refine And.intro ?_ ?_ | exact Or.inl ⟨rfl, rfl⟩ | exact rfl)
  all_goals (conv => whnf)
  · rename_i h
    have h := decT h
    rw [byD_length] at h
    have hi : i < b.length := by omega
    refine IdxG.by i b[i] rfl (List.getElem?_eq_getElem hi) ?_
    conv => whnf
    refine call0 (hf b[i]) ?_
    repeat' ((conv => whnf); first | exact trivial | refine aB rfl ?_ | refine sY rfl ?_ | refine sN rfl ?_ | refine sM (fun _ => ?_) (fun _ => ?_) | refine cK (by kernel_rfl) ?_ | refine And.intro ?_ ?_ | exact Or.inl ⟨rfl, rfl⟩ | exact rfl)
    all_goals (conv => whnf)
    · rename_i h2
      refine KI.i64 ((i + 1 : Nat) : Int) (by simp) (by omega) ?_
      conv => whnf
      refine NextG.to (i + 1) ⟨by omega, fun _ => by omega, fun k hk1 hk2 c hc => ?_⟩ (by omega) ⟨⟨rfl, rfl, rfl, trivial⟩, trivial⟩
      by_cases e : k = i
      · subst e
        rw [List.getElem?_eq_getElem hi] at hc
        injection hc with hc
        subst hc; exact h2
      · exact hk k hk1 (by omega) c hc
    · rename_i h2
      have h2 : p b[i] = false := h2
      rw [stop fun c hc => by rw [List.getElem?_eq_getElem hi] at hc; injection hc with hc; subst hc; exact h2]
  · rename_i h
    have h := decF h
    rw [byD_length] at h
    rw [stop fun c hc => by have := (List.getElem?_eq_some_iff.1 hc).1; omega]
theorem lexLine (b : List UInt8) : PCall Tryz.prog 114 [] [.list 1 (byD b)] (.ret (.v (.int .i64 (lineS b))) []) := by
  refine pcall_of (news := []) cxOK Tryz.func114 rfl Tryz.ntmps114 rfl rfl rfl (by decide) ?_
  conv => whnf
  refine call0 (bytesIndexByte b 10) ?_
  repeat' ((conv => whnf); first | exact trivial | refine aB rfl ?_ | refine sY rfl ?_ | refine sN rfl ?_ | refine sM (fun _ => ?_) (fun _ => ?_) | refine cK (by kernel_rfl) ?_ | refine And.intro ?_ ?_ | exact Or.inl ⟨rfl, rfl⟩ | exact rfl)
  all_goals (conv => whnf)
  · rename_i h
    have h1 : (0 : Int) ≤ Lib.indexByte b 10 := decT h
    simp only [lineS, decide_eq_true h1]
    congr 1
    omega
  · rename_i h
    have h1 : ¬ (0 : Int) ≤ Lib.indexByte b 10 := decF h
    simp only [lineS, decide_eq_false h1, byD_length]
end Tryz
end Go.Dm
namespace Go.Dm
/-! ### lex: percent words, texts, actions -/
def kw (b : List UInt8) (s : List UInt8) : Bool := strEq ⟨s.toArray⟩ ⟨b.toArray⟩
theorem kw_iff {b s : List UInt8} : kw b s = true ↔ s = b := strEq_iff
def wordS (s : List UInt8) : Nat :=
  match kw [37, 116, 111, 107, 101, 110] s with
  | true => 3
  | false => match kw [37, 108, 101, 102, 116] s with
    | true => 4
    | false => match kw [37, 114, 105, 103, 104, 116] s with
      | true => 5
      | false => match kw [37, 110, 111, 110, 97, 115, 115, 111, 99] s with
        | true => 6
        | false => match kw [37, 115, 116, 97, 114, 116] s with
          | true => 7
          | false => match kw [37, 112, 114, 101, 99] s with
            | true => 8
            | false => match kw [37, 37] s with
              | true => 9
              | false => match kw [58] s with
                | true => 10
                | false => match kw [124] s with
                  | true => 11
                  | false => match kw [59] s with
                    | true => 12
                    | false => 0
namespace Tryz
open Go.Proofs
theorem lexWord (s : List UInt8) : PCall Tryz.prog 119 [] [.v (str s)] (.ret (.v (.int .i64 (wordS s))) []) := by
  refine pcall_of (news := []) cxOK Tryz.func119 rfl Tryz.ntmps119 rfl rfl rfl (by decide) ?_
  repeat' ((conv => whnf); first | exact trivial | refine aB rfl ?_ | refine sY rfl ?_ | refine sN rfl ?_ | refine sM (fun _ => ?_) (fun _ => ?_) | refine cK (by kernel_rfl) ?_ | refine And.intro ?_ ?_ | exact Or.inl ⟨rfl, rfl⟩ | exact rfl)
  all_goals (conv => whnf)
  all_goals simp [wordS, kw, *]
theorem lexText (b : List UInt8) (hb : b.length ≤ 4294967295) : PCall Tryz.prog 156 [] [.list 1 (byD b)] (.ret (.v (.int .i64 (textS b))) []) := by
  refine pcall_of (news := []) cxOK Tryz.func156 rfl Tryz.ntmps156 rfl rfl rfl (by decide) ?_
  conv => whnf
  refine LoopW.to (ι := Nat) (fun i => 1 ≤ i ∧ i ≤ b.length + 1 ∧ textS b = (match b with | [] => 0 | q :: _ => textGo q (b.drop i) i false)) (fun i => b.length + 1 - i)
    (fun i => [(0, .list 1 (byD b)), (3, .v (.int .i64 i))]) (fun _ => []) [] 1 ⟨Nat.le_refl _, by omega, by cases b <;> rfl⟩ ⟨⟨rfl, rfl, trivial⟩, trivial⟩ ?_
  rintro i ⟨h1, hle, ht⟩
  cases b with
  | nil =>
    repeat' ((conv => whnf); first | exact trivial | refine aB rfl ?_ | refine sY rfl ?_ | refine sN rfl ?_ | refine sM (fun _ => ?_) (fun _ => ?_) | refine cK (by kernel_rfl) ?_ | refine And.intro ?_ ?_ | exact Or.inl ⟨rfl, rfl⟩ | exact rfl)
    all_goals (conv => whnf)
    all_goals rfl
  | cons q r =>
  simp only at ht
  repeat' ((conv => whnf); first | exact trivial | refine aB rfl ?_ | refine sY rfl ?_ | refine sN rfl ?_ | refine sM (fun _ => ?_) (fun _ => ?_) | refine cK (by kernel_rfl) ?_ | refine And.intro ?_ ?_ | exact Or.inl ⟨rfl, rfl⟩ | exact rfl)
  all_goals (conv => whnf)
  · rename_i h
    have h := decT h
    rw [byD_length] at h
    have hi : i < (q :: r).length := by omega
    have hd : (q :: r).drop i = (q :: r)[i] :: (q :: r).drop (i + 1) := List.drop_eq_getElem_cons hi
    rw [hd] at ht
    refine IdxG.by i (q :: r)[i] rfl (List.getElem?_eq_getElem hi) ?_
    conv => whnf
    refine IdxG.by 0 q rfl rfl ?_
    repeat' ((conv => whnf); first | exact trivial | refine aB rfl ?_ | refine sY rfl ?_ | refine sN rfl ?_ | refine sM (fun _ => ?_) (fun _ => ?_) | refine cK (by kernel_rfl) ?_ | refine And.intro ?_ ?_ | exact Or.inl ⟨rfl, rfl⟩ | exact rfl)
    all_goals (conv => whnf)
    · rename_i h2
      refine KI.i64 ((i + 1 : Nat) : Int) (by simp) (by omega) ?_
      conv => whnf
      rw [ht, textGo, h2]
    · rename_i h2 h3
      refine KI.i64 ((i + 1 : Nat) : Int) (by simp) (by omega) ?_
      conv => whnf
      refine KI.i64 ((i + 2 : Nat) : Int) (by simp; omega) (by omega) ?_
      conv => whnf
      rw [textGo, h2] at ht
      simp only [h3] at ht
      refine NextG.to (i + 2) ⟨by omega, by omega, ?_⟩ (by omega) ⟨⟨rfl, rfl, trivial⟩, trivial⟩
      rw [ht]
      rcases Nat.lt_or_ge (i + 1) (q :: r).length with h | h
      · rw [List.drop_eq_getElem_cons h, textGo]
      · rw [List.drop_eq_nil_of_le h, List.drop_eq_nil_of_le (by omega : (q :: r).length ≤ i + 2)]; rfl
    · rename_i h2 h3
      refine KI.i64 ((i + 1 : Nat) : Int) (by simp) (by omega) ?_
      conv => whnf
      rw [textGo, h2] at ht
      simp only [h3] at ht
      exact NextG.to (i + 1) ⟨by omega, by omega, ht⟩ (by omega) ⟨⟨rfl, rfl, trivial⟩, trivial⟩
  · rename_i h
    have h := decF h
    rw [byD_length] at h
    rw [ht, List.drop_eq_nil_of_le (by omega)]; rfl
end Tryz
/-- How deep braces are, and where they are closed. -/
def actGo (b : List UInt8) : Nat → Nat → Int → Nat
  | 0, _, _ => 0
  | fuel + 1, i, deep => match b[i]? with
    | none => 0
    | some c => match decide ((c.toNat : Int) = 123) with
      | true => match decide (deep + 1 > 0) with
        | true => actGo b fuel (i + 1) (deep + 1)
        | false => i + 1
      | false => match decide ((c.toNat : Int) = 125) with
        | true => match decide (deep - 1 > 0) with
          | true => actGo b fuel (i + 1) (deep - 1)
          | false => i + 1
        | false => match decide ((c.toNat : Int) = 39) || decide ((c.toNat : Int) = 34) with
          | true => match decide (textS (b.drop i) = 0) with
            | true => 0
            | false => actGo b fuel (i + textS (b.drop i)) deep
          | false => match decide (deep > 0) with
            | true => actGo b fuel (i + 1) deep
            | false => i + 1
def actionS (b : List UInt8) : Nat := actGo b (b.length + 1) 0 0
theorem textGo_le (q : UInt8) : ∀ (b : List UInt8) (i : Nat) (e : Bool), textGo q b i e = 0 ∨ (i < textGo q b i e ∧ textGo q b i e ≤ i + b.length)
  | [], _, _ => .inl rfl
  | c :: r, i, true => by
    rw [textGo]
    rcases textGo_le q r (i + 1) false with h | h
    · exact .inl h
    · simp only [List.length_cons]; right; omega
  | c :: r, i, false => by
    rw [textGo]
    split
    · simp only [List.length_cons]; right; omega
    · rcases textGo_le q r (i + 1) (decide ((c.toNat : Int) = 92)) with h | h
      · exact .inl h
      · simp only [List.length_cons]; right; omega
theorem textS_le (b : List UInt8) : textS b ≤ b.length := by
  cases b with
  | nil => exact Nat.le_refl _
  | cons q r =>
    simp only [textS, List.length_cons]
    rcases textGo_le q r 1 false with h | h <;> omega
/-- More fuel than the rest has bytes is enough. -/
theorem actGo_fuel (b : List UInt8) : ∀ (n m i : Nat) (d : Int), b.length < n + i → b.length < m + i → actGo b n i d = actGo b m i d
  | 0, 0, _, _, _, _ => rfl
  | 0, m + 1, i, d, h1, _ => by
    have : b[i]? = none := List.getElem?_eq_none (by omega)
    simp [actGo, this]
  | n + 1, 0, i, d, _, h2 => by
    have : b[i]? = none := List.getElem?_eq_none (by omega)
    simp [actGo, this]
  | n + 1, m + 1, i, d, h1, h2 => by
    have s1 : ∀ d, actGo b n (i + 1) d = actGo b m (i + 1) d := fun d => actGo_fuel b n m (i + 1) d (by omega) (by omega)
    have s2 : ∀ t d, 0 < t → actGo b n (i + t) d = actGo b m (i + t) d := fun t d ht => actGo_fuel b n m (i + t) d (by omega) (by omega)
    simp only [actGo, s1]
    cases hb : b[i]? with
    | none => rfl
    | some c =>
      simp only
      by_cases h0 : textS (b.drop i) = 0
      · simp [h0]
      · rw [s2 _ _ (by omega)]
namespace Tryz
open Go.Proofs
theorem lexAction (b : List UInt8) (hb : b.length ≤ 4294967295) : PCall Tryz.prog 115 [] [.list 1 (byD b)] (.ret (.v (.int .i64 (actionS b))) []) := by
  refine pcall_of (news := []) cxOK Tryz.func115 rfl Tryz.ntmps115 rfl rfl rfl (by decide) ?_
  conv => whnf
  refine ScopeW.loop (ι := Nat × Int) 0 (fun p => p.1 ≤ b.length ∧ (-(p.1 : Int) ≤ p.2 ∧ p.2 ≤ p.1) ∧ actionS b = actGo b (b.length + 1 - p.1) p.1 p.2) (fun p => b.length - p.1)
    (fun p => [(0, .list 1 (byD b)), (3, .v (.int .i64 p.2)), (4, .v (.int .i64 p.1))]) (fun _ => []) rfl ?_ ?_
  · conv => whnf
    exact GotoG.first (0, 0) [] ⟨Nat.zero_le _, by simp, rfl⟩ ⟨⟨rfl, rfl, rfl, trivial⟩, trivial⟩
  rintro ⟨i, deep⟩ ⟨hi, ⟨hd1, hd2⟩, ht⟩
  simp only at hi hd1 hd2 ht
  repeat' ((conv => whnf); first | exact trivial | refine aB rfl ?_ | refine sY rfl ?_ | refine sN rfl ?_ | refine sM (fun _ => ?_) (fun _ => ?_) | refine cK (by kernel_rfl) ?_ | refine And.intro ?_ ?_ | exact Or.inl ⟨rfl, rfl⟩ | exact rfl)
  all_goals (conv => whnf)
  · rename_i h
    have h := decT h
    rw [byD_length] at h
    rw [ht]
    have : b[i]? = none := List.getElem?_eq_none (by omega)
    have e : b.length + 1 - i = 0 + 1 := by omega
    rw [e]; simp only [actGo, this]; rfl
  rename_i h
  have h := decF h
  rw [byD_length] at h
  have hlt : i < b.length := by omega
  have hc := List.getElem?_eq_getElem hlt
  have e : b.length + 1 - i = (b.length - i) + 1 := by omega
  have e2 : b.length + 1 - (i + 1) = b.length - i := by omega
  rw [e] at ht
  refine IdxG.by i b[i] rfl hc ?_
  repeat' ((conv => whnf); first | exact trivial | refine aB rfl ?_ | refine sY rfl ?_ | refine sN rfl ?_ | refine sM (fun _ => ?_) (fun _ => ?_) | refine cK (by kernel_rfl) ?_ | refine And.intro ?_ ?_ | exact Or.inl ⟨rfl, rfl⟩ | exact rfl)
  all_goals (conv => whnf)
  · rename_i h1
    rw [actGo, hc] at ht
    simp only [h1] at ht
    refine KI.i64 (deep + 1) rfl (by omega) ?_
    conv => whnf
    refine KI.i64 ((i + 1 : Nat) : Int) (by simp) (by omega) ?_
    repeat' ((conv => whnf); first | exact trivial | refine aB rfl ?_ | refine sY rfl ?_ | refine sN rfl ?_ | refine sM (fun _ => ?_) (fun _ => ?_) | refine cK (by kernel_rfl) ?_ | refine And.intro ?_ ?_ | exact Or.inl ⟨rfl, rfl⟩ | exact rfl)
    all_goals (conv => whnf)
    · rename_i h2
      have h2 : decide (deep + 1 > 0) = true := h2
      simp only [h2] at ht
      exact GotoG.again (i + 1, deep + 1) ⟨by omega, ⟨by simp only; omega, by simp only; omega⟩, by rw [ht]; exact actGo_fuel b _ _ _ _ (by omega) (by simp only; omega)⟩ (by simp only; omega) ⟨⟨rfl, rfl, rfl, trivial⟩, trivial⟩
    · rename_i h2
      have h2 : decide (deep + 1 > 0) = false := h2
      simp only [h2] at ht
      rw [ht]
  · rename_i h1 h1'
    rw [actGo, hc] at ht
    simp only [h1, h1'] at ht
    refine KI.i64 (deep - 1) rfl (by omega) ?_
    conv => whnf
    refine KI.i64 ((i + 1 : Nat) : Int) (by simp) (by omega) ?_
    repeat' ((conv => whnf); first | exact trivial | refine aB rfl ?_ | refine sY rfl ?_ | refine sN rfl ?_ | refine sM (fun _ => ?_) (fun _ => ?_) | refine cK (by kernel_rfl) ?_ | refine And.intro ?_ ?_ | exact Or.inl ⟨rfl, rfl⟩ | exact rfl)
    all_goals (conv => whnf)
    · rename_i h2
      have h2 : decide (deep - 1 > 0) = true := h2
      simp only [h2] at ht
      exact GotoG.again (i + 1, deep - 1) ⟨by omega, ⟨by simp only; omega, by simp only; omega⟩, by rw [ht]; exact actGo_fuel b _ _ _ _ (by omega) (by simp only; omega)⟩ (by simp only; omega) ⟨⟨rfl, rfl, rfl, trivial⟩, trivial⟩
    · rename_i h2
      have h2 : decide (deep - 1 > 0) = false := h2
      simp only [h2] at ht
      rw [ht]
  · rename_i h1 h1' h3
    rw [actGo, hc] at ht
    simp only [h1, h1', h3, Bool.true_or] at ht
    refine BndG.to i rfl ?_
    conv => whnf
    refine CutL.by (b.drop i) (by rw [byD_length]; omega) (by rw [byD_length]; exact Nat.le_refl _) (by rw [byD_length, List.take_length]) ?_
    conv => whnf
    refine call0 (lexText (b.drop i) (by simp; omega)) ?_
    have hte := textS_le (b.drop i)
    rw [List.length_drop] at hte
    repeat' ((conv => whnf); first | exact trivial | refine aB rfl ?_ | refine sY rfl ?_ | refine sN rfl ?_ | refine sM (fun _ => ?_) (fun _ => ?_) | refine cK (by kernel_rfl) ?_ | refine And.intro ?_ ?_ | exact Or.inl ⟨rfl, rfl⟩ | exact rfl)
    all_goals (conv => whnf)
    · rename_i h4
      have h4 := decT h4
      have h5 : textS (b.drop i) = 0 := by omega
      simp only [decide_eq_true h5] at ht
      rw [ht]; rfl
    · rename_i h4
      have h4 := decF h4
      have h5 : ¬ textS (b.drop i) = 0 := by omega
      simp only [decide_eq_false h5] at ht
      refine KI.i64 ((i + textS (b.drop i) : Nat) : Int) (by simp) (by omega) ?_
      conv => whnf
      exact GotoG.again (i + textS (b.drop i), deep) ⟨by simp only; omega, ⟨by simp only; omega, by simp only; omega⟩, by rw [ht]; exact actGo_fuel b _ _ _ _ (by omega) (by simp only; omega)⟩ (by simp only; omega) ⟨⟨rfl, rfl, rfl, trivial⟩, trivial⟩
  · rename_i h1 h1' h3 h3'
    rw [actGo, hc] at ht
    simp only [h1, h1', h3, h3', Bool.or_true] at ht
    refine BndG.to i rfl ?_
    conv => whnf
    refine CutL.by (b.drop i) (by rw [byD_length]; omega) (by rw [byD_length]; exact Nat.le_refl _) (by rw [byD_length, List.take_length]) ?_
    conv => whnf
    refine call0 (lexText (b.drop i) (by simp; omega)) ?_
    have hte := textS_le (b.drop i)
    rw [List.length_drop] at hte
    repeat' ((conv => whnf); first | exact trivial | refine aB rfl ?_ | refine sY rfl ?_ | refine sN rfl ?_ | refine sM (fun _ => ?_) (fun _ => ?_) | refine cK (by kernel_rfl) ?_ | refine And.intro ?_ ?_ | exact Or.inl ⟨rfl, rfl⟩ | exact rfl)
    all_goals (conv => whnf)
    · rename_i h4
      have h4 := decT h4
      have h5 : textS (b.drop i) = 0 := by omega
      simp only [decide_eq_true h5] at ht
      rw [ht]; rfl
    · rename_i h4
      have h4 := decF h4
      have h5 : ¬ textS (b.drop i) = 0 := by omega
      simp only [decide_eq_false h5] at ht
      refine KI.i64 ((i + textS (b.drop i) : Nat) : Int) (by simp) (by omega) ?_
      conv => whnf
      exact GotoG.again (i + textS (b.drop i), deep) ⟨by simp only; omega, ⟨by simp only; omega, by simp only; omega⟩, by rw [ht]; exact actGo_fuel b _ _ _ _ (by omega) (by simp only; omega)⟩ (by simp only; omega) ⟨⟨rfl, rfl, rfl, trivial⟩, trivial⟩
  · rename_i h1 h1' h3 h3'
    rw [actGo, hc] at ht
    simp only [h1, h1', h3, h3', Bool.or_false] at ht
    refine KI.i64 ((i + 1 : Nat) : Int) (by simp) (by omega) ?_
    repeat' ((conv => whnf); first | exact trivial | refine aB rfl ?_ | refine sY rfl ?_ | refine sN rfl ?_ | refine sM (fun _ => ?_) (fun _ => ?_) | refine cK (by kernel_rfl) ?_ | refine And.intro ?_ ?_ | exact Or.inl ⟨rfl, rfl⟩ | exact rfl)
    all_goals (conv => whnf)
    · rename_i h2
      have h2 : decide (deep > 0) = true := h2
      simp only [h2] at ht
      exact GotoG.again (i + 1, deep) ⟨by omega, ⟨by simp only; omega, by simp only; omega⟩, by rw [ht]; exact actGo_fuel b _ _ _ _ (by omega) (by simp only; omega)⟩ (by simp only; omega) ⟨⟨rfl, rfl, rfl, trivial⟩, trivial⟩
    · rename_i h2
      have h2 : decide (deep > 0) = false := h2
      simp only [h2] at ht
      rw [ht]
end Tryz
end Go.Dm
namespace Go.Dm
open Ieee
/-! ### Whole numbers as floats -/
theorem log2_shift {n k : Nat} (h : 1 ≤ n) : (n * 2 ^ k).log2 = n.log2 + k := by
  have hn : n ≠ 0 := by omega
  have h2 : n * 2 ^ k ≠ 0 := Nat.mul_ne_zero hn (Nat.pos_iff_ne_zero.1 (Nat.two_pow_pos k))
  rw [Nat.log2_eq_iff h2]
  have h3 := Nat.log2_self_le hn
  have h4 := @Nat.lt_log2_self n
  constructor
  · rw [Nat.pow_add]; exact Nat.mul_le_mul_right _ h3
  · rw [show n.log2 + k + 1 = (n.log2 + 1) + k from by omega, Nat.pow_add]
    exact Nat.mul_lt_mul_of_pos_right h4 (Nat.two_pow_pos k)
theorem cut_exact (way : Toward) (m d : Nat) (h : d ≤ (m * 2 ^ d).log2 + 2) : way.cut false (m * 2 ^ d) d = m := by
  have hp := Nat.two_pow_pos d
  have hg : 1 <<< min d ((m * 2 ^ d).log2 + 2) = 2 ^ d := by rw [Nat.min_eq_left h, Nat.one_shiftLeft]
  have h1 : m * 2 ^ d / 2 ^ d = m := Nat.mul_div_cancel _ hp
  have h2 : m * 2 ^ d % 2 ^ d = 0 := Nat.mul_mod_left _ _
  have h3 : ¬ 2 ^ d < 2 * 0 := by omega
  have h4 : (2 ^ d == 2 * 0) = false := by simp
  cases way <;> simp only [Toward.cut, hg, h1, h2] <;> simp [h3, h4]
/-- The word of a whole number. -/
def flW (n : Nat) : Nat := (n.log2 + 1022) * 2 ^ 52 + n * 2 ^ (52 - n.log2)
theorem log2_lt52 {n : Nat} (h1 : 1 ≤ n) (h2 : n < 2 ^ 52) : n.log2 < 52 := (Nat.log2_lt (by omega)).2 h2
theorem kept_lo {n : Nat} (h1 : 1 ≤ n) (h2 : n < 2 ^ 52) : 2 ^ 52 ≤ n * 2 ^ (52 - n.log2) ∧ n * 2 ^ (52 - n.log2) < 2 * 2 ^ 52 := by
  have hL := log2_lt52 h1 h2
  have h3 := Nat.log2_self_le (n := n) (by omega)
  have h4 := @Nat.lt_log2_self n
  have e1 : (2 : Nat) ^ 52 = 2 ^ n.log2 * 2 ^ (52 - n.log2) := by rw [← Nat.pow_add]; congr 1; omega
  have e2 : 2 * (2 : Nat) ^ 52 = 2 ^ (n.log2 + 1) * 2 ^ (52 - n.log2) := by rw [← Nat.pow_add, ← Nat.pow_succ']; congr 1; omega
  rw [e2, e1]
  exact ⟨Nat.mul_le_mul_right _ h3, Nat.mul_lt_mul_of_pos_right h4 (Nat.two_pow_pos _)⟩
theorem word_false (r : Nat) : double.word false r = r := rfl
theorem mul_le_of {a c : Nat} (h : a ≤ c) (B : Nat) : a * B ≤ c * B := Nat.mul_le_mul_right B h
set_option maxRecDepth 20000 in
theorem nearest_scaled {n k : Nat} (h1 : 1 ≤ n) (h2 : n < 2 ^ 52) (hk : k ≤ 1074) : double.nearest false (n * 2 ^ k) (-(k : Int)) = flW n := by
  have hL := log2_lt52 h1 h2
  obtain ⟨k1, k2⟩ := kept_lo h1 h2
  have hne : n * 2 ^ k ≠ 0 := Nat.mul_ne_zero (by omega) (Nat.pos_iff_ne_zero.1 (Nat.two_pow_pos k))
  have hleast : double.leastPlace = -1074 := by decide
  have hlast : max (-(k : Int) + ((n * 2 ^ k).log2 : Int) - ((52 : Nat) : Int)) (-1074) = (n.log2 : Int) - 52 := by
    rw [log2_shift h1]; omega
  have hkept : Toward.even.cut false ((n * 2 ^ k) <<< (-(k : Int) - ((n.log2 : Int) - 52)).toNat) (((n.log2 : Int) - 52) - -(k : Int)).toNat = n * 2 ^ (52 - n.log2) := by
    by_cases hc : k ≤ 52 - n.log2
    · have e1 : (-(k : Int) - ((n.log2 : Int) - 52)).toNat = 52 - n.log2 - k := by omega
      have e2 : (((n.log2 : Int) - 52) - -(k : Int)).toNat = 0 := by omega
      rw [e1, e2, Nat.shiftLeft_eq, Nat.mul_assoc, ← Nat.pow_add, show k + (52 - n.log2 - k) = 52 - n.log2 from by omega]
      have := cut_exact .even (n * 2 ^ (52 - n.log2)) 0 (by omega)
      simpa using this
    · have e1 : (-(k : Int) - ((n.log2 : Int) - 52)).toNat = 0 := by omega
      have e2 : (((n.log2 : Int) - 52) - -(k : Int)).toNat = k - (52 - n.log2) := by omega
      rw [e1, e2, Nat.shiftLeft_zero]
      have e3 : n * 2 ^ k = n * 2 ^ (52 - n.log2) * 2 ^ (k - (52 - n.log2)) := by
        rw [Nat.mul_assoc, ← Nat.pow_add]; congr 2; omega
      rw [e3]
      refine cut_exact .even _ _ ?_
      rw [← e3, log2_shift h1]; omega
  unfold Format.nearest
  rw [if_neg hne]
  simp only [hleast]
  show double.word false (min ((max (-(k : Int) + ((n * 2 ^ k).log2 : Int) - ((52 : Nat) : Int)) (-1074) - -1074).toNat * double.binade + Toward.even.cut false ((n * 2 ^ k) <<< (-(k : Int) - max (-(k : Int) + ((n * 2 ^ k).log2 : Int) - ((52 : Nat) : Int)) (-1074)).toNat) (max (-(k : Int) + ((n * 2 ^ k).log2 : Int) - ((52 : Nat) : Int)) (-1074) - -(k : Int)).toNat) double.infRung) = _
  rw [hlast, hkept]
  have e4 : ((n.log2 : Int) - 52 - -1074).toNat = n.log2 + 1022 := by omega
  rw [e4, show double.binade = 2 ^ 52 from rfl, show double.infRung = 2047 * 2 ^ 52 from rfl, word_false]
  unfold flW
  have h9 := mul_le_of (show n.log2 + 1022 ≤ 1073 by omega) (2 ^ 52)
  rw [Nat.min_eq_left]
  generalize (2 : Nat) ^ 52 = B at *
  generalize n * 2 ^ (52 - n.log2) = X at *
  generalize (n.log2 + 1022) * B = Y at *
  clear hkept hlast e4 hne
  omega
set_option maxRecDepth 20000 in
theorem read_flW {n : Nat} (h1 : 1 ≤ n) (h2 : n < 2 ^ 52) : double.read (flW n) = .number false (n * 2 ^ (52 - n.log2)) ((n.log2 : Int) - 52) := by
  have hL := log2_lt52 h1 h2
  obtain ⟨k1, k2⟩ := kept_lo h1 h2
  have hB : 0 < (2 : Nat) ^ 52 := Nat.two_pow_pos 52
  have hread : ∀ (B X L : Nat), 0 < B → L < 52 → B ≤ X → X < 2 * B → ((L + 1022) * B + X) < 2048 * B ∧ ((L + 1022) * B + X) / B = L + 1023 ∧ ((L + 1022) * B + X) % B = X - B ∧ ¬ ((L + 1022) * B + X < B) ∧ (L + 1022) * B + X < 2047 * B := by
    intro B X L hB hL h3 h4
    obtain ⟨Z, rfl⟩ := Nat.exists_eq_add_of_le h3
    have hZ : Z < B := by omega
    have e : (L + 1022) * B + (B + Z) = (L + 1023) * B + Z := by
      rw [show L + 1023 = (L + 1022) + 1 from rfl, Nat.add_mul (L + 1022) 1 B, Nat.one_mul]; omega
    have h5 := mul_le_of (show L + 1023 ≤ 1074 by omega) B
    have h6 := mul_le_of (show 1 ≤ L + 1023 by omega) B
    rw [e]
    refine ⟨by omega, ?_, ?_, by omega, by omega⟩
    · rw [Nat.mul_comm, Nat.mul_add_div hB, Nat.div_eq_of_lt hZ]
    · rw [Nat.mul_comm, Nat.mul_add_mod, Nat.mod_eq_of_lt hZ, Nat.add_sub_cancel_left]
  obtain ⟨r1, r2, r3, r4, r5⟩ := hread (2 ^ 52) (n * 2 ^ (52 - n.log2)) n.log2 hB hL k1 k2
  have hs : (2 : Nat) ^ 63 = 2048 * 2 ^ 52 := by rw [show (2048 : Nat) = 2 ^ 11 from rfl, ← Nat.pow_add]
  unfold Format.read
  simp only [show double.signWeight = 2 ^ 63 from rfl, show double.binade = 2 ^ 52 from rfl, show double.infRung = 2047 * 2 ^ 52 from rfl, show double.leastPlace = -1074 from by decide]
  unfold flW
  rw [hs, Nat.div_eq_of_lt r1, Nat.mod_eq_of_lt r1, if_neg r4, if_pos r5, r2, r3]
  have e1 : 2 ^ 52 + (n * 2 ^ (52 - n.log2) - 2 ^ 52) = n * 2 ^ (52 - n.log2) := Nat.add_sub_cancel' k1
  rw [e1]
  have e2 : (-1074 : Int) + ((n.log2 + 1023 - 1 : Nat) : Int) = (n.log2 : Int) - 52 := by clear r1 r2 r3 r4 r5 hs e1 k1 k2 hread; omega
  rw [e2]
  rfl
def fl (n : Nat) : Nat := FloatKind.f64.nearest (n : Int)
theorem fl_eq {n : Nat} (h1 : 1 ≤ n) (h2 : n < 2 ^ 52) : fl n = flW n := by
  have := nearest_scaled (n := n) (k := 0) h1 h2 (by omega)
  have e : fl n = double.nearest (decide ((n : Int) < 0)) (n : Int).natAbs 0 := rfl
  rw [e, decide_eq_false (by omega), Int.natAbs_natCast]
  simpa using this
theorem shl_flat {n L : Nat} {base : Int} (hL : L < 52) (hb : base ≤ (L : Int) - 52) : (n * 2 ^ (52 - L)) <<< ((L : Int) - 52 - base).toNat = n * 2 ^ (-base).toNat := by
  rw [Nat.shiftLeft_eq, Nat.mul_assoc, ← Nat.pow_add]
  congr 2; omega
theorem order_fl {n m : Nat} (h1 : 1 ≤ n) (h2 : n < 2 ^ 52) (g1 : 1 ≤ m) (g2 : m < 2 ^ 52) : FloatKind.f64.format.order (fl n) (fl m) = some (compare (n : Int) (m : Int)) := by
  have hL := log2_lt52 h1 h2
  have gL := log2_lt52 g1 g2
  show (double.read (fl n)).order (double.read (fl m)) = _
  rw [fl_eq h1 h2, fl_eq g1 g2, read_flW h1 h2, read_flW g1 g2]
  simp only [Datum.order, signed, Bool.false_eq_true, if_false]
  rw [shl_flat hL (Int.min_le_left _ _), shl_flat gL (Int.min_le_right _ _)]
  have hP := Nat.two_pow_pos (-(min ((n.log2 : Int) - 52) ((m.log2 : Int) - 52))).toNat
  generalize 2 ^ (-(min ((n.log2 : Int) - 52) ((m.log2 : Int) - 52))).toNat = P at *
  have hc : ∀ a b : Int, compare a b = if a < b then .lt else if a = b then .eq else .gt := fun a b => rfl
  rw [hc, hc]
  rcases Nat.lt_trichotomy n m with h | h | h
  · have := Nat.mul_lt_mul_of_pos_right h hP
    rw [if_pos (by omega), if_pos (by omega)]
  · subst h; simp
  · have := Nat.mul_lt_mul_of_pos_right h hP
    rw [if_neg (by omega), if_neg (by omega), if_neg (by omega), if_neg (by omega)]
theorem add_fl {n m : Nat} (h1 : 1 ≤ n) (h2 : n < 2 ^ 52) (g1 : 1 ≤ m) (g2 : m < 2 ^ 52) (hs : n + m < 2 ^ 52) : FloatKind.f64.format.add (fl n) (fl m) = some (fl (n + m)) := by
  have hL := log2_lt52 h1 h2
  have gL := log2_lt52 g1 g2
  show ((double.read (fl n)).sum (double.read (fl m))).map double.write = _
  rw [fl_eq h1 h2, fl_eq g1 g2, read_flW h1 h2, read_flW g1 g2]
  simp only [Datum.sum, signed, Bool.false_eq_true, if_false]
  rw [shl_flat hL (Int.min_le_left _ _), shl_flat gL (Int.min_le_right _ _)]
  have hk : ∃ k : Nat, k ≤ 1074 ∧ min ((n.log2 : Int) - 52) ((m.log2 : Int) - 52) = -(k : Int) := ⟨(-(min ((n.log2 : Int) - 52) ((m.log2 : Int) - 52))).toNat, by omega, by omega⟩
  obtain ⟨k, hk1, hk2⟩ := hk
  rw [hk2]
  simp only [Int.neg_neg, Int.toNat_natCast, Option.map_some, Option.some.injEq]
  have e : ((n * 2 ^ k : Nat) : Int) + ((m * 2 ^ k : Nat) : Int) = (((n + m) * 2 ^ k : Nat) : Int) := by rw [Nat.add_mul]; rfl
  rw [e]
  have hpos : 0 < (n + m) * 2 ^ k := Nat.mul_pos (by omega) (Nat.two_pow_pos k)
  rw [if_neg (by omega), decide_eq_false (by omega), Int.natAbs_natCast]
  show double.nearest false ((n + m) * 2 ^ k) (-(k : Int)) = _
  rw [nearest_scaled (by omega) hs hk1, fl_eq (by omega) hs]
theorem add_zero {n : Nat} (h1 : 1 ≤ n) (h2 : n < 2 ^ 52) : FloatKind.f64.format.add (fl n) 0 = some (fl n) := by
  have hL := log2_lt52 h1 h2
  show ((double.read (fl n)).sum (double.read 0)).map double.write = _
  rw [fl_eq h1 h2, read_flW h1 h2]
  have e : double.read 0 = .number false 0 (-1074) := by decide
  rw [e]
  simp only [Datum.sum, signed, Bool.false_eq_true, if_false]
  rw [shl_flat hL (Int.min_le_left _ _)]
  have hk2 : min ((n.log2 : Int) - 52) (-1074) = -((1074 : Nat) : Int) := by omega
  rw [hk2]
  simp only [Int.neg_neg, Int.toNat_natCast, Option.map_some, Option.some.injEq, Nat.zero_shiftLeft]
  have e : ((n * 2 ^ 1074 : Nat) : Int) + ((0 : Nat) : Int) = ((n * 2 ^ 1074 : Nat) : Int) := Int.add_zero _
  rw [e]
  have hpos : 0 < n * 2 ^ 1074 := Nat.mul_pos (by omega) (Nat.two_pow_pos 1074)
  generalize hX : n * 2 ^ 1074 = X at *
  rw [if_neg (by omega), decide_eq_false (by omega), Int.natAbs_natCast]
  subst hX
  show double.nearest false (n * 2 ^ 1074) (-((1074 : Nat) : Int)) = _
  rw [nearest_scaled h1 h2 (Nat.le_refl _)]
def truncF (x : Nat) : Option Nat := match FloatKind.f64.decode x with
  | .nan _ _ => none
  | d => some (FloatKind.f64.encode (d.integral .zero))
theorem trunc_fl {n : Nat} (h1 : 1 ≤ n) (h2 : n < 2 ^ 52) : truncF (fl n) = some (fl n) := by
  have hL := log2_lt52 h1 h2
  unfold truncF
  show (match double.read (fl n) with
  | .nan _ _ => none
  | d => some (double.write (d.integral .zero))) = _
  rw [fl_eq h1 h2, read_flW h1 h2]
  simp only [Datum.integral, Option.some.injEq]
  have e1 : ((n.log2 : Int) - 52).toNat = 0 := by omega
  have e2 : (-((n.log2 : Int) - 52)).toNat = 52 - n.log2 := by omega
  rw [e1, e2, Nat.shiftLeft_zero, cut_exact _ _ _ (by rw [log2_shift h1]; omega)]
  show double.nearest false n 0 = _
  have := nearest_scaled (n := n) (k := 0) h1 h2 (by omega)
  simpa using this
end Go.Dm
namespace Go.Dm
/-! ### Operators on floats; places -/
section
variable {P : Program} {t : TypeId} {x y : Operand}
def fcmp (op : BinOp) (a b : Nat) : Option Bool := match op with
  | .eql => some (FloatKind.f64.format.order a b == some .eq)
  | .geq => some (FloatKind.f64.format.order a b == some .gt || FloatKind.f64.format.order a b == some .eq)
  | .leq => some (FloatKind.f64.format.order a b == some .lt || FloatKind.f64.format.order a b == some .eq)
  | .lss => some (FloatKind.f64.format.order a b == some .lt)
  | _ => none
theorem bs_fcmp {op : BinOp} {a b : Nat} {r : Bool} (h : fcmp op a b = some r) : BinSem P op t x y (.v (.float .f64 a)) (.v (.float .f64 b)) (.v (.bool r)) := by
  intro E w u v hu hv
  obtain rfl : u = _ := hu
  obtain rfl : v = _ := hv
  refine ⟨run_eqGuard_other P w (by simp) (by simp), .bool r, ?_, rfl⟩
  cases op <;> simp [fcmp] at h <;> simp [binOp, Op.floatCmp, h]
theorem bs_fadd {a b r : Nat} (h : FloatKind.f64.format.add a b = some r) : BinSem P .add t x y (.v (.float .f64 a)) (.v (.float .f64 b)) (.v (.float .f64 r)) := by
  intro E w u v hu hv
  obtain rfl : u = _ := hu
  obtain rfl : v = _ := hv
  refine ⟨run_eqGuard_other P w (by simp) (by simp), .float .f64 r, ?_, rfl⟩
  simp [binOp, Op.floatArith, h]
theorem bs_cadd {a b c d r s : Nat} (h : FloatKind.f64.format.add a c = some r) (h' : FloatKind.f64.format.add b d = some s) : BinSem P .add t x y (.v (.complex .f64 a b)) (.v (.complex .f64 c d)) (.v (.complex .f64 r s)) := by
  intro E w u v hu hv
  obtain rfl : u = _ := hu
  obtain rfl : v = _ := hv
  refine ⟨run_eqGuard_other P w (by simp) (by simp), .complex .f64 r s, ?_, rfl⟩
  simp [binOp, Op.complexOp, Op.Complex.arith, Op.floatArith, h, h']
end
/-- Behind a byte. -/
def stepS (p : Nat × Nat) (c : UInt8) : Nat × Nat := match decide ((c.toNat : Int) = 10) with
  | true => (p.1 + 1, 1)
  | false => (p.1, p.2 + 1)
/-- A place. -/
def pl (l c : Nat) : Value := .complex .f64 (fl l) (fl c)
theorem one_fl : (4607182418800017408 : Nat) = fl 1 := by decide +kernel
theorem big_fl : (4742290407621132288 : Nat) = fl 1073741824 := by decide +kernel
theorem fl_ge {n m : Nat} (h1 : 1 ≤ n) (h2 : n < 2 ^ 52) (g1 : 1 ≤ m) (g2 : m < 2 ^ 52) (h : m ≤ n) : fcmp .geq (fl n) (fl m) = some true := by
  have hc : ∀ a b : Int, compare a b = if a < b then .lt else if a = b then .eq else .gt := fun a b => rfl
  simp only [fcmp, order_fl h1 h2 g1 g2, hc]
  rw [if_neg (by omega)]
  split <;> rfl
theorem fl_le {n m : Nat} (h1 : 1 ≤ n) (h2 : n < 2 ^ 52) (g1 : 1 ≤ m) (g2 : m < 2 ^ 52) (h : n ≤ m) : fcmp .leq (fl n) (fl m) = some true := by
  have hc : ∀ a b : Int, compare a b = if a < b then .lt else if a = b then .eq else .gt := fun a b => rfl
  simp only [fcmp, order_fl h1 h2 g1 g2, hc]
  split
  · rfl
  · rw [if_pos (by omega)]; rfl
theorem fl_eqq {n : Nat} (h1 : 1 ≤ n) (h2 : n < 2 ^ 52) : fcmp .eql (fl n) (fl n) = some true := by
  have hc : ∀ a b : Int, compare a b = if a < b then .lt else if a = b then .eq else .gt := fun a b => rfl
  simp only [fcmp, order_fl h1 h2 h1 h2, hc]
  simp
namespace Tryz
open Go.Proofs
theorem eArchTrunc {g : D} {a b : Nat} (h : truncF a = some b) : ECall Tryz.prog g 192 [.v (.float .f64 a)] (.v (.float .f64 b)) := by
  intro E w vs hi _ ⟨v, ws, e1, h1, e2⟩
  subst e1; subst e2
  obtain rfl : v = _ := h1
  refine ⟨_, ?_, rfl⟩
  rw [run_callFunc_extern Tryz.func192 (by kernel_rfl) (by kernel_rfl) (by kernel_rfl) (e := Extern.MathFloor.toIntegral "math.archTrunc" .zero) (by kernel_rfl)]
  show Result.andThen (Sem.run Tryz.prog (Extern.MathFloor.toIntegral "math.archTrunc" .zero #[.float .f64 a]) w) _ = _
  unfold truncF at h
  have : (Extern.MathFloor.toIntegral "math.archTrunc" .zero #[.float .f64 a]).run Tryz.prog w = .ok (.float .f64 b) w := by
    have hg : ∃ g : Bool → Nat → Sem Value, Extern.MathFloor.toIntegral "math.archTrunc" .zero #[.float .f64 a] = (match FloatKind.f64.decode a with
      | .nan s t => g s t
      | d => pure (.float .f64 (FloatKind.f64.encode (d.integral .zero)))) := ⟨_, rfl⟩
    obtain ⟨g, hg⟩ := hg
    rw [hg]
    cases hd : FloatKind.f64.decode a with
    | nan s u => rw [hd] at h; cases h
    | number s m p => rw [hd] at h; simp at h; simp [h]
    | infinity s => rw [hd] at h; simp at h; simp [h]
  rw [this]
  rfl
theorem mathTrunc {a b : Nat} (h : truncF a = some b) : PCall Tryz.prog 191 [] [.v (.float .f64 a)] (.ret (.v (.float .f64 b)) []) := by
  refine pcall_of (news := []) cxOK Tryz.func191 rfl Tryz.ntmps191 rfl rfl rfl (by decide) ?_
  repeat' ((conv => whnf); first | exact trivial | refine aB rfl ?_ | refine sY rfl ?_ | refine sN rfl ?_ | refine sM (fun _ => ?_) (fun _ => ?_) | refine cK (by kernel_rfl) ?_ | refine And.intro ?_ ?_ | exact Or.inl ⟨rfl, rfl⟩ | exact rfl)
  all_goals (conv => whnf)
  exact callE (eArchTrunc h) rfl
theorem placeWhole {n : Nat} (h1 : 1 ≤ n) (h2 : n ≤ 1073741824) : PCall Tryz.prog 186 [] [.v (.float .f64 (fl n))] (.ret (.v (.bool true)) []) := by
  have h3 : n < 2 ^ 52 := by omega
  refine pcall_of (news := []) cxOK Tryz.func186 rfl Tryz.ntmps186 rfl rfl rfl (by decide) ?_
  conv => whnf
  refine BinG.to (.v (.bool true)) (bs_fcmp (by rw [one_fl]; exact fl_ge h1 h3 (by omega) (by omega) h1)) ?_
  repeat' ((conv => whnf); first | exact trivial | refine aB rfl ?_ | refine sY rfl ?_ | refine sN rfl ?_ | refine sM (fun _ => ?_) (fun _ => ?_) | refine cK (by kernel_rfl) ?_ | refine And.intro ?_ ?_ | exact Or.inl ⟨rfl, rfl⟩ | exact rfl)
  all_goals (conv => whnf)
  refine BinG.to (.v (.bool true)) (bs_fcmp (by rw [big_fl]; exact fl_le h1 h3 (by omega) (by omega) h2)) ?_
  repeat' ((conv => whnf); first | exact trivial | refine aB rfl ?_ | refine sY rfl ?_ | refine sN rfl ?_ | refine sM (fun _ => ?_) (fun _ => ?_) | refine cK (by kernel_rfl) ?_ | refine And.intro ?_ ?_ | exact Or.inl ⟨rfl, rfl⟩ | exact rfl)
  all_goals (conv => whnf)
  refine call0 (mathTrunc (trunc_fl h1 h3)) ?_
  repeat' ((conv => whnf); first | exact trivial | refine aB rfl ?_ | refine sY rfl ?_ | refine sN rfl ?_ | refine sM (fun _ => ?_) (fun _ => ?_) | refine cK (by kernel_rfl) ?_ | refine And.intro ?_ ?_ | exact Or.inl ⟨rfl, rfl⟩ | exact rfl)
  all_goals (conv => whnf)
  refine BinG.to (.v (.bool true)) (bs_fcmp (fl_eqq h1 h3)) ?_
  conv => whnf
  rfl
theorem placeRight {l c : Nat} (h1 : 1 ≤ l) (h2 : l ≤ 1073741824) (g1 : 1 ≤ c) (g2 : c ≤ 1073741824) : PCall Tryz.prog 157 [] [.v (pl l c)] (.ret (.v (.bool true)) []) := by
  refine pcall_of (news := []) cxOK Tryz.func157 rfl Tryz.ntmps157 rfl rfl rfl (by decide) ?_
  conv => whnf
  refine call0 (placeWhole h1 h2) ?_
  repeat' ((conv => whnf); first | exact trivial | refine aB rfl ?_ | refine sY rfl ?_ | refine sN rfl ?_ | refine sM (fun _ => ?_) (fun _ => ?_) | refine cK (by kernel_rfl) ?_ | refine And.intro ?_ ?_ | exact Or.inl ⟨rfl, rfl⟩ | exact rfl)
  all_goals (conv => whnf)
  refine call0 (placeWhole g1 g2) ?_
  conv => whnf
  rfl
theorem placeKept {l c : Nat} (h1 : 1 ≤ l) (h2 : l ≤ 1073741824) (g1 : 1 ≤ c) (g2 : c ≤ 1073741824) : PCall Tryz.prog 158 [] [.v (pl l c)] (.ret (.v (pl l c)) []) := by
  refine pcall_of (news := []) cxOK Tryz.func158 rfl Tryz.ntmps158 rfl rfl rfl (by decide) ?_
  conv => whnf
  refine call0 (placeRight h1 h2 g1 g2) ?_
  repeat' ((conv => whnf); first | exact trivial | refine aB rfl ?_ | refine sY rfl ?_ | refine sN rfl ?_ | refine sM (fun _ => ?_) (fun _ => ?_) | refine cK (by kernel_rfl) ?_ | refine And.intro ?_ ?_ | exact Or.inl ⟨rfl, rfl⟩ | exact rfl)
  all_goals (conv => whnf)
theorem placeStep {l c : Nat} (b : UInt8) (h1 : 1 ≤ l) (h2 : l < 1073741824) (g1 : 1 ≤ c) (g2 : c < 1073741824) : PCall Tryz.prog 116 [] [.v (pl l c), .v (.int .u8 b.toNat)] (.ret (.v (pl (stepS (l, c) b).1 (stepS (l, c) b).2)) []) := by
  refine pcall_of (news := []) cxOK Tryz.func116 rfl Tryz.ntmps116 rfl rfl rfl (by decide) ?_
  conv => whnf
  refine call0 (placeRight h1 (by omega) g1 (by omega)) ?_
  repeat' ((conv => whnf); first | exact trivial | refine aB rfl ?_ | refine sY rfl ?_ | refine sN rfl ?_ | refine sM (fun _ => ?_) (fun _ => ?_) | refine cK (by kernel_rfl) ?_ | refine And.intro ?_ ?_ | exact Or.inl ⟨rfl, rfl⟩ | exact rfl)
  all_goals (conv => whnf)
  · rename_i h
    have h : decide ((b.toNat : Int) = 10) = true := h
    simp only [stepS, h]
    refine BinG.to (.v (.float .f64 (fl (l + 1)))) (bs_fadd (by rw [one_fl]; exact add_fl h1 (by omega) (by omega) (by omega) (by omega))) ?_
    repeat' ((conv => whnf); first | exact trivial | refine aB rfl ?_ | refine sY rfl ?_ | refine sN rfl ?_ | refine sM (fun _ => ?_) (fun _ => ?_) | refine cK (by kernel_rfl) ?_ | refine And.intro ?_ ?_ | exact Or.inl ⟨rfl, rfl⟩ | exact rfl)
    all_goals (conv => whnf)
    refine call0 (placeKept (l := l + 1) (c := 1) (by omega) (by omega) (by omega) (by omega)) ?_
    conv => whnf
  · rename_i h
    have h : decide ((b.toNat : Int) = 10) = false := h
    simp only [stepS, h]
    refine BinG.to (.v (pl l (c + 1))) (bs_cadd (add_zero h1 (by omega)) (by rw [one_fl]; exact add_fl g1 (by omega) (by omega) (by omega) (by omega))) ?_
    repeat' ((conv => whnf); first | exact trivial | refine aB rfl ?_ | refine sY rfl ?_ | refine sN rfl ?_ | refine sM (fun _ => ?_) (fun _ => ?_) | refine cK (by kernel_rfl) ?_ | refine And.intro ?_ ?_ | exact Or.inl ⟨rfl, rfl⟩ | exact rfl)
    all_goals (conv => whnf)
    refine call0 (placeKept (l := l) (c := c + 1) (by omega) (by omega) (by omega) (by omega)) ?_
    conv => whnf
theorem placeOf {l c : Nat} (h1 : 1 ≤ l) (h2 : l ≤ 1073741824) (g1 : 1 ≤ c) (g2 : c ≤ 1073741824) : PCall Tryz.prog 88 [] [.v (.int .i64 l), .v (.int .i64 c)] (.ret (.v (pl l c)) []) := by
  refine pcall_of (news := []) cxOK Tryz.func88 rfl Tryz.ntmps88 rfl rfl rfl (by decide) ?_
  repeat' ((conv => whnf); first | exact trivial | refine aB rfl ?_ | refine sY rfl ?_ | refine sN rfl ?_ | refine sM (fun _ => ?_) (fun _ => ?_) | refine cK (by kernel_rfl) ?_ | refine And.intro ?_ ?_ | exact Or.inl ⟨rfl, rfl⟩ | exact rfl)
  all_goals (conv => whnf)
  · rename_i h; have := decT h; omega
  · rename_i h; have := decT (p := (l : Int) > 1073741824) h; omega
  · rename_i h; have := decT (p := (c : Int) < 1) h; omega
  · rename_i h; have := decT (p := (c : Int) > 1073741824) h; omega
  refine FltG.to (fl l) Tryz.underlying160 rfl ?_
  repeat' ((conv => whnf); first | exact trivial | refine aB rfl ?_ | refine sY rfl ?_ | refine sN rfl ?_ | refine sM (fun _ => ?_) (fun _ => ?_) | refine cK (by kernel_rfl) ?_ | refine And.intro ?_ ?_ | exact Or.inl ⟨rfl, rfl⟩ | exact rfl)
  all_goals (conv => whnf)
  refine FltG.to (fl c) Tryz.underlying160 rfl ?_
  conv => whnf
  rfl
end Tryz
end Go.Dm
namespace Go.Dm
/-! ### lex: going on in a text -/
def stepsS (p : Nat × Nat) (b : List UInt8) : Nat × Nat := b.foldl stepS p
theorem stepS_le (p : Nat × Nat) (c : UInt8) (h1 : 1 ≤ p.1) (h2 : 1 ≤ p.2) : 1 ≤ (stepS p c).1 ∧ 1 ≤ (stepS p c).2 ∧ (stepS p c).1 ≤ p.1 + 1 ∧ (stepS p c).2 ≤ p.2 + 1 := by
  unfold stepS
  split <;> simp only <;> omega
theorem stepsS_le : ∀ (b : List UInt8) (p : Nat × Nat), 1 ≤ p.1 → 1 ≤ p.2 → 1 ≤ (stepsS p b).1 ∧ 1 ≤ (stepsS p b).2 ∧ (stepsS p b).1 ≤ p.1 + b.length ∧ (stepsS p b).2 ≤ p.2 + b.length
  | [], p, h1, h2 => ⟨h1, h2, Nat.le_refl _, Nat.le_refl _⟩
  | c :: r, p, h1, h2 => by
    obtain ⟨g1, g2, g3, g4⟩ := stepS_le p c h1 h2
    obtain ⟨k1, k2, k3, k4⟩ := stepsS_le r (stepS p c) g1 g2
    simp only [stepsS, List.foldl_cons, List.length_cons] at *
    exact ⟨k1, k2, by omega, by omega⟩
def readerM (id : Nat) (b : List UInt8) (p : Nat × Nat) : Mem := [(id, .cells [.list 1 (byD b), .v (pl p.1 p.2)])]
namespace Tryz
open Go.Proofs
theorem readerPass (b : List UInt8) (p : Nat × Nat) (n : Nat) (hn : n ≤ b.length) (hp1 : 1 ≤ p.1) (hp2 : 1 ≤ p.2) (hp : p.1 + b.length < 1073741824 ∧ p.2 + b.length < 1073741824) :
    PCall Tryz.prog 90 (readerM 1000 b p) [.ref 1000 0, .v (.int .i64 n)] (.ret (.tup []) (readerM 1000 (b.drop n) (stepsS p (b.take n)))) := by
  refine pcall_of (news := []) cxOK Tryz.func90 rfl Tryz.ntmps90 rfl rfl rfl (by decide) ?_
  conv => whnf
  refine BndG.to n rfl ?_
  conv => whnf
  refine CutL.by (b.take n) (Nat.zero_le _) hn (by simp) ?_
  conv => whnf
  have hlen : (b.take n).length = n := by simp; omega
  refine LoopW.to (ι := Nat) (fun i => i ≤ n) (fun i => n - i)
    (fun i => [(0, .ref 1000 0), (1, .v (.int .i64 n)), (11, .list 1 (byD (b.take n))), (12, .v (.int .i64 n)), (13, .v (.int .i64 i))])
    (fun i => readerM 1000 b (stepsS p (b.take i))) [] 0 (Nat.zero_le _) ⟨⟨rfl, rfl, rfl, congrArg (fun k : Nat => D.v (.int .i64 (k : Int))) (by rw [byD_length, hlen]), rfl, trivial⟩, rfl, trivial⟩ ?_
  intro i hi
  obtain ⟨k1, k2, k3, k4⟩ := stepsS_le (b.take i) p hp1 hp2
  have hti : (b.take i).length = i := by simp; omega
  repeat' ((conv => whnf); first | exact trivial | refine aB rfl ?_ | refine sY rfl ?_ | refine sN rfl ?_ | refine sM (fun _ => ?_) (fun _ => ?_) | refine cK (by kernel_rfl) ?_ | refine And.intro ?_ ?_ | exact Or.inl ⟨rfl, rfl⟩ | exact rfl)
  all_goals (conv => whnf)
  · rename_i h
    have h := decT h
    have hlt : i < n := by omega
    have hb : b[i]? = some b[i] := List.getElem?_eq_getElem (by omega)
    refine IdxG.by i b[i] rfl (by rw [List.getElem?_take_of_lt hlt]; exact hb) ?_
    conv => whnf
    refine call0 (placeStep b[i] k1 (by omega) k2 (by omega)) ?_
    repeat' ((conv => whnf); first | exact trivial | refine aB rfl ?_ | refine sY rfl ?_ | refine sN rfl ?_ | refine sM (fun _ => ?_) (fun _ => ?_) | refine cK (by kernel_rfl) ?_ | refine And.intro ?_ ?_ | exact Or.inl ⟨rfl, rfl⟩ | exact rfl)
    all_goals (conv => whnf)
    refine KI.i64 ((i + 1 : Nat) : Int) (by simp) (by omega) ?_
    conv => whnf
    have hst : stepsS p (b.take (i + 1)) = stepS (stepsS p (b.take i)) b[i] := by
      unfold stepsS
      rw [List.take_add_one, hb, List.foldl_append]; rfl
    refine NextG.to (i + 1) (by omega) (by omega) ⟨⟨rfl, rfl, rfl, rfl, rfl, trivial⟩, ?_, trivial⟩
    show _ = some (Ob.cells [D.list 1 (byD b), D.v (pl (stepsS p (b.take (i + 1))).1 (stepsS p (b.take (i + 1))).2)])
    rw [hst]
    rfl
  · rename_i h
    have h := decF h
    have hin : i = n := by omega
    subst hin
    refine BndG.to i rfl ?_
    conv => whnf
    refine CutL.by (b.drop i) (by rw [byD_length]; omega) (by rw [byD_length]; exact Nat.le_refl _) (by rw [byD_length, List.take_length]) ?_
    repeat' ((conv => whnf); first | exact trivial | refine aB rfl ?_ | refine sY rfl ?_ | refine sN rfl ?_ | refine sM (fun _ => ?_) (fun _ => ?_) | refine cK (by kernel_rfl) ?_ | refine And.intro ?_ ?_ | exact Or.inl ⟨rfl, rfl⟩ | exact rfl)
    all_goals (conv => whnf)
end Tryz
end Go.Dm
namespace Go.Proofs
open Go.Shelf
def Tryz.lays170_ren : Go.Shelf.Ren := ⟨fun | 170 => 48 | n => n, fun | 70 => 74 | 3 => 3 | 0 => 0 | 72 => 76 | 37 => 33 | 5 => 5 | n => n, fun | n => n⟩
theorem Tryz.lays170 : Go.Proofs.Lays.n170 Tryz.prog Tryz.lays170_ren := {
  mixed := by kernel_rfl
  f170 := Tryz.func48.trans (congrArg some (by kernel_rfl))
  t0 := Tryz.underlying0
  a0 := Tryz.isAgg0
  z0 := Tryz.sizeOf0
  v0 := Tryz.zeroValue0
  t3 := Tryz.underlying3
  a3 := Tryz.isAgg3
  z3 := Tryz.sizeOf3
  v3 := Tryz.zeroValue3
  t37 := Tryz.underlying33
  a37 := Tryz.isAgg33
  z37 := Tryz.sizeOf33
  v37 := Tryz.zeroValue33
  t70 := Tryz.underlying74
  a70 := Tryz.isAgg74
  z70 := Tryz.sizeOf74
  v70 := Tryz.zeroValue74
  t72 := Tryz.underlying76
  a72 := Tryz.isAgg76
  z72 := Tryz.sizeOf76
  v72 := Tryz.zeroValue76 }
open Go.RowKit in
theorem Tryz.Builder_Len (B b : Nat) (bs : List Value) (w : World) (h : Lib.IsBuilder 76 5 B b bs w) :
    Calls Tryz.prog 48 #[.pointer (some ⟨b, 0, none⟩)] w fun e w' => e = .returned (.int .i64 bs.length) ∧ w' = w := Any.Builder_Len Tryz.lays170 B b bs w h
def Tryz.lays169_ren : Go.Shelf.Ren := ⟨fun | 169 => 49 | n => n, fun | 70 => 74 | 9 => 9 | 0 => 0 | 72 => 76 | 37 => 33 | 127 => 116 | 3 => 3 | 5 => 5 | n => n, fun | n => n⟩
theorem Tryz.lays169 : Go.Proofs.Lays.n169 Tryz.prog Tryz.lays169_ren := {
  mixed := by kernel_rfl
  f169 := Tryz.func49.trans (congrArg some (by kernel_rfl))
  t0 := Tryz.underlying0
  a0 := Tryz.isAgg0
  z0 := Tryz.sizeOf0
  v0 := Tryz.zeroValue0
  t3 := Tryz.underlying3
  a3 := Tryz.isAgg3
  z3 := Tryz.sizeOf3
  v3 := Tryz.zeroValue3
  t9 := Tryz.underlying9
  a9 := Tryz.isAgg9
  z9 := Tryz.sizeOf9
  v9 := Tryz.zeroValue9
  t37 := Tryz.underlying33
  a37 := Tryz.isAgg33
  z37 := Tryz.sizeOf33
  v37 := Tryz.zeroValue33
  t70 := Tryz.underlying74
  a70 := Tryz.isAgg74
  z70 := Tryz.sizeOf74
  v70 := Tryz.zeroValue74
  t72 := Tryz.underlying76
  a72 := Tryz.isAgg76
  z72 := Tryz.sizeOf76
  v72 := Tryz.zeroValue76
  t127 := Tryz.underlying116
  a127 := Tryz.isAgg116
  z127 := Tryz.sizeOf116
  v127 := Tryz.zeroValue116 }
theorem Tryz.Builder_Extra_169 : Builder.Extra Tryz.prog Tryz.lays169_ren := {
  sizeBuilder := by kernel_rfl
  liesBuilder := by kernel_rfl
  t5 := Tryz.underlying5
  a5 := Tryz.isAgg5
  z5 := Tryz.sizeOf5
  v5 := Tryz.zeroValue5
  infoByte := by kernel_rfl
  cellsByte := by kernel_rfl
  sizeByte := by kernel_rfl
  neB5 := by decide }
open Go.RowKit in
theorem Tryz.Builder_String (B b : Nat) (l : List UInt8) (w : World) (h : Lib.IsBuilder 76 5 B b (Lib.byteCells l) w) (h0 : l ≠ []) :
    Calls Tryz.prog 49 #[.pointer (some ⟨b, 0, none⟩)] w fun e w' => e = .returned (.string ⟨l.toArray⟩) ∧ Below B w w' := Any.Builder_String Tryz.lays169 Tryz.Builder_Extra_169 B b l w h h0
open Go.RowKit in
theorem Tryz.Builder_String_empty (B b : Nat) (w : World) (h : Lib.IsBuilder 76 5 B b [] w) (hBw : B ≤ w.heap.size) :
    Calls Tryz.prog 49 #[.pointer (some ⟨b, 0, none⟩)] w fun e w' => e = .returned (.string ⟨#[]⟩) ∧ Below B w w' := Any.Builder_String_empty Tryz.lays169 Tryz.Builder_Extra_169 B b w h hBw
open Go.RowKit in
theorem Tryz.Builder_String_any (B b : Nat) (l : List UInt8) (w : World) (h : Lib.IsBuilder 76 5 B b (Lib.byteCells l) w) (hBw : B ≤ w.heap.size) :
    Calls Tryz.prog 49 #[.pointer (some ⟨b, 0, none⟩)] w fun e w' => e = .returned (.string ⟨l.toArray⟩) ∧ Below B w w' := Any.Builder_String_any Tryz.lays169 Tryz.Builder_Extra_169 B b l w h hBw
def Tryz.lays241_ren : Go.Shelf.Ren := ⟨fun | 241 => 139 | 277 => 176 | n => n, fun | 70 => 74 | 3 => 3 | 0 => 0 | 72 => 76 | 37 => 33 | 5 => 5 | n => n, fun | n => n⟩
theorem Tryz.lays241 : Go.Proofs.Lays.n241 Tryz.prog Tryz.lays241_ren := {
  mixed := by kernel_rfl
  f241 := Tryz.func139.trans (congrArg some (by kernel_rfl))
  f277 := Tryz.func176.trans (congrArg some (by kernel_rfl))
  t0 := Tryz.underlying0
  a0 := Tryz.isAgg0
  z0 := Tryz.sizeOf0
  v0 := Tryz.zeroValue0
  t3 := Tryz.underlying3
  a3 := Tryz.isAgg3
  z3 := Tryz.sizeOf3
  v3 := Tryz.zeroValue3
  t37 := Tryz.underlying33
  a37 := Tryz.isAgg33
  z37 := Tryz.sizeOf33
  v37 := Tryz.zeroValue33
  t70 := Tryz.underlying74
  a70 := Tryz.isAgg74
  z70 := Tryz.sizeOf74
  v70 := Tryz.zeroValue74
  t72 := Tryz.underlying76
  a72 := Tryz.isAgg76
  z72 := Tryz.sizeOf76
  v72 := Tryz.zeroValue76 }
theorem Tryz.Builder_Extra_241 : Builder.Extra Tryz.prog Tryz.lays241_ren := {
  sizeBuilder := by kernel_rfl
  liesBuilder := by kernel_rfl
  t5 := Tryz.underlying5
  a5 := Tryz.isAgg5
  z5 := Tryz.sizeOf5
  v5 := Tryz.zeroValue5
  infoByte := by kernel_rfl
  cellsByte := by kernel_rfl
  sizeByte := by kernel_rfl
  neB5 := by decide }
open Go.RowKit in
theorem Tryz.Builder_grow_fresh (B b n : Nat) (w : World) (hB : B ≤ b) (hbk : w.heap[b]? = some (.cells #[.pointer (some ⟨b, 0, none⟩), .slice none 0 0] 76 (0, 0))) (hBw : B ≤ w.heap.size) (hn : n ≤ 281474976710656) :
    Calls Tryz.prog 139 #[.pointer (some ⟨b, 0, none⟩), .int .i64 n] w fun e w' => e = .returned (.tuple #[]) ∧ (Lib.BuilderAt 76 5 B b (.pointer (some ⟨b, 0, none⟩)) [] w' ∧ Below B w w') := Any.Builder_grow_fresh Tryz.lays241 Tryz.Builder_Extra_241 B b n w hB hbk hBw hn
def Tryz.lays165_ren : Go.Shelf.Ren := ⟨fun | 165 => 105 | 240 => 104 | 241 => 139 | 276 => 138 | 277 => 176 | n => n, fun | 70 => 74 | 3 => 3 | 0 => 0 | 4 => 4 | 9 => 9 | 20 => 20 | 72 => 76 | 37 => 33 | 164 => 185 | 5 => 5 | n => n, fun | n => n⟩
theorem Tryz.lays165 : Go.Proofs.Lays.n165 Tryz.prog Tryz.lays165_ren := {
  mixed := by kernel_rfl
  f165 := Tryz.func105.trans (congrArg some (by kernel_rfl))
  f240 := Tryz.func104.trans (congrArg some (by kernel_rfl))
  f241 := Tryz.func139.trans (congrArg some (by kernel_rfl))
  f276 := Tryz.func138.trans (congrArg some (by kernel_rfl))
  f277 := Tryz.func176.trans (congrArg some (by kernel_rfl))
  t0 := Tryz.underlying0
  a0 := Tryz.isAgg0
  z0 := Tryz.sizeOf0
  v0 := Tryz.zeroValue0
  t3 := Tryz.underlying3
  a3 := Tryz.isAgg3
  z3 := Tryz.sizeOf3
  v3 := Tryz.zeroValue3
  t4 := Tryz.underlying4
  a4 := Tryz.isAgg4
  z4 := Tryz.sizeOf4
  v4 := Tryz.zeroValue4
  t9 := Tryz.underlying9
  a9 := Tryz.isAgg9
  z9 := Tryz.sizeOf9
  v9 := Tryz.zeroValue9
  t20 := Tryz.underlying20
  a20 := Tryz.isAgg20
  z20 := Tryz.sizeOf20
  v20 := Tryz.zeroValue20
  t37 := Tryz.underlying33
  a37 := Tryz.isAgg33
  z37 := Tryz.sizeOf33
  v37 := Tryz.zeroValue33
  t70 := Tryz.underlying74
  a70 := Tryz.isAgg74
  z70 := Tryz.sizeOf74
  v70 := Tryz.zeroValue74
  t72 := Tryz.underlying76
  a72 := Tryz.isAgg76
  z72 := Tryz.sizeOf76
  v72 := Tryz.zeroValue76
  t164 := Tryz.underlying185
  a164 := Tryz.isAgg185
  z164 := Tryz.sizeOf185
  v164 := Tryz.zeroValue185 }
theorem Tryz.Builder_Extra_165 : Builder.Extra Tryz.prog Tryz.lays165_ren := {
  sizeBuilder := by kernel_rfl
  liesBuilder := by kernel_rfl
  t5 := Tryz.underlying5
  a5 := Tryz.isAgg5
  z5 := Tryz.sizeOf5
  v5 := Tryz.zeroValue5
  infoByte := by kernel_rfl
  cellsByte := by kernel_rfl
  sizeByte := by kernel_rfl
  neB5 := by decide }
open Go.RowKit in
theorem Tryz.Builder_Grow_fresh (B b n : Nat) (w : World) (hB : B ≤ b) (hbk : w.heap[b]? = some (.cells #[.pointer none, .slice none 0 0] 76 (0, 0))) (hBw : B ≤ w.heap.size) (hn : n ≤ 281474976710656) :
    Calls Tryz.prog 105 #[.pointer (some ⟨b, 0, none⟩), .int .i64 n] w fun e w' => e = .returned (.tuple #[]) ∧ (Lib.BuilderAt 76 5 B b (.pointer (some ⟨b, 0, none⟩)) [] w' ∧ Below B w w') := Any.Builder_Grow_fresh Tryz.lays165 Tryz.Builder_Extra_165 B b n w hB hbk hBw hn
def Tryz.lays128_ren : Go.Shelf.Ren := ⟨fun | 128 => 151 | n => n, fun | 51 => 43 | 3 => 3 | 4 => 4 | 46 => 154 | 5 => 5 | 9 => 9 | n => n, fun | n => n⟩
theorem Tryz.lays128 : Go.Proofs.Lays.n128 Tryz.prog Tryz.lays128_ren := {
  mixed := by kernel_rfl
  f128 := Tryz.func151.trans (congrArg some (by kernel_rfl))
  t3 := Tryz.underlying3
  a3 := Tryz.isAgg3
  z3 := Tryz.sizeOf3
  v3 := Tryz.zeroValue3
  t4 := Tryz.underlying4
  a4 := Tryz.isAgg4
  z4 := Tryz.sizeOf4
  v4 := Tryz.zeroValue4
  t5 := Tryz.underlying5
  a5 := Tryz.isAgg5
  z5 := Tryz.sizeOf5
  v5 := Tryz.zeroValue5
  t9 := Tryz.underlying9
  a9 := Tryz.isAgg9
  z9 := Tryz.sizeOf9
  v9 := Tryz.zeroValue9
  t46 := Tryz.underlying154
  a46 := Tryz.isAgg154
  z46 := Tryz.sizeOf154
  v46 := Tryz.zeroValue154
  t51 := Tryz.underlying43
  a51 := Tryz.isAgg43
  z51 := Tryz.sizeOf43
  v51 := Tryz.zeroValue43 }
theorem Tryz.bits_Len32 (x : Int) (w : World) (h0 : 0 ≤ x) (h1 : x ≤ 4294967295) :
    Calls Tryz.prog 151 #[.int .u32 x] w fun e w' => e = .returned (.int .i64 (Lib.bitLen x.toNat)) ∧ w' = w := Any.bits_Len32 Tryz.lays128 x w h0 h1
def Tryz.lays125_ren : Go.Shelf.Ren := ⟨fun | 125 => 110 | 128 => 151 | 129 => 152 | n => n, fun | 46 => 154 | 3 => 3 | 51 => 43 | 53 => 197 | 4 => 4 | 5 => 5 | 9 => 9 | n => n, fun | n => n⟩
theorem Tryz.lays125 : Go.Proofs.Lays.n125 Tryz.prog Tryz.lays125_ren := {
  mixed := by kernel_rfl
  f125 := Tryz.func110.trans (congrArg some (by kernel_rfl))
  f128 := Tryz.func151.trans (congrArg some (by kernel_rfl))
  f129 := Tryz.func152.trans (congrArg some (by kernel_rfl))
  t3 := Tryz.underlying3
  a3 := Tryz.isAgg3
  z3 := Tryz.sizeOf3
  v3 := Tryz.zeroValue3
  t4 := Tryz.underlying4
  a4 := Tryz.isAgg4
  z4 := Tryz.sizeOf4
  v4 := Tryz.zeroValue4
  t5 := Tryz.underlying5
  a5 := Tryz.isAgg5
  z5 := Tryz.sizeOf5
  v5 := Tryz.zeroValue5
  t9 := Tryz.underlying9
  a9 := Tryz.isAgg9
  z9 := Tryz.sizeOf9
  v9 := Tryz.zeroValue9
  t46 := Tryz.underlying154
  a46 := Tryz.isAgg154
  z46 := Tryz.sizeOf154
  v46 := Tryz.zeroValue154
  t51 := Tryz.underlying43
  a51 := Tryz.isAgg43
  z51 := Tryz.sizeOf43
  v51 := Tryz.zeroValue43
  t53 := Tryz.underlying197
  a53 := Tryz.isAgg197
  z53 := Tryz.sizeOf197
  v53 := Tryz.zeroValue197 }
theorem Tryz.bits_Len (x : Int) (w : World) (h0 : 0 ≤ x) (h1 : x ≤ 18446744073709551615) :
    Calls Tryz.prog 110 #[.int .u64 x] w fun e w' => e = .returned (.int .i64 (Lib.bitLen x.toNat)) ∧ w' = w := Any.bits_Len Tryz.lays125 x w h0 h1
def Tryz.lays129_ren : Go.Shelf.Ren := ⟨fun | 129 => 152 | n => n, fun | 53 => 197 | 3 => 3 | 4 => 4 | 46 => 154 | 5 => 5 | 9 => 9 | n => n, fun | n => n⟩
theorem Tryz.lays129 : Go.Proofs.Lays.n129 Tryz.prog Tryz.lays129_ren := {
  mixed := by kernel_rfl
  f129 := Tryz.func152.trans (congrArg some (by kernel_rfl))
  t3 := Tryz.underlying3
  a3 := Tryz.isAgg3
  z3 := Tryz.sizeOf3
  v3 := Tryz.zeroValue3
  t4 := Tryz.underlying4
  a4 := Tryz.isAgg4
  z4 := Tryz.sizeOf4
  v4 := Tryz.zeroValue4
  t5 := Tryz.underlying5
  a5 := Tryz.isAgg5
  z5 := Tryz.sizeOf5
  v5 := Tryz.zeroValue5
  t9 := Tryz.underlying9
  a9 := Tryz.isAgg9
  z9 := Tryz.sizeOf9
  v9 := Tryz.zeroValue9
  t46 := Tryz.underlying154
  a46 := Tryz.isAgg154
  z46 := Tryz.sizeOf154
  v46 := Tryz.zeroValue154
  t53 := Tryz.underlying197
  a53 := Tryz.isAgg197
  z53 := Tryz.sizeOf197
  v53 := Tryz.zeroValue197 }
theorem Tryz.bits_Len64 (x : Int) (w : World) (h0 : 0 ≤ x) (h1 : x ≤ 18446744073709551615) :
    Calls Tryz.prog 152 #[.int .u64 x] w fun e w' => e = .returned (.int .i64 (Lib.bitLen x.toNat)) ∧ w' = w := Any.bits_Len64 Tryz.lays129 x w h0 h1
def Tryz.lays224_ren : Go.Shelf.Ren := ⟨fun | 224 => 184 | n => n, fun | 3 => 3 | n => n, fun | n => n⟩
theorem Tryz.lays224 : Go.Proofs.Lays.n224 Tryz.prog Tryz.lays224_ren := {
  mixed := by kernel_rfl
  f224 := Tryz.func184.trans (congrArg some (by kernel_rfl))
  t3 := Tryz.underlying3
  a3 := Tryz.isAgg3
  z3 := Tryz.sizeOf3
  v3 := Tryz.zeroValue3 }
open Go.RowKit Go.Lib in
theorem Tryz.bytealg_Cutover (n : Int) (h0 : 0 ≤ n) (h1 : n < 4611686018427387904) (w : World) :
    Calls Tryz.prog 184 #[.int .i64 n] w fun e w' => e = .returned (.int .i64 ((n + 16) / 8)) ∧ w' = w := Any.bytealg_Cutover Tryz.lays224 n h0 h1 w
def Tryz.lays190_ren : Go.Shelf.Ren := ⟨fun | 190 => 82 | 125 => 110 | 258 => 109 | 128 => 151 | 129 => 152 | 302 => 142 | 303 => 143 | 304 => 144 | 305 => 145 | 306 => 146 | 307 => 147 | 308 => 148 | 309 => 149 | 310 => 150 | 333 => 177 | 329 => 178 | 330 => 179 | 334 => 180 | 335 => 181 | 336 => 182 | 344 => 189 | n => n, fun | 31 => 23 | 9 => 9 | 3 => 3 | 46 => 154 | 0 => 0 | 51 => 43 | 53 => 197 | 4 => 4 | 183 => 189 | 182 => 188 | 131 => 38 | 5 => 5 | 218 => 212 | 222 => 216 | 228 => 221 | 229 => 222 | n => n, fun | n => n⟩
theorem Tryz.lays190 : Go.Proofs.Lays.n190 Tryz.prog Tryz.lays190_ren := {
  mixed := by kernel_rfl
  f125 := Tryz.func110.trans (congrArg some (by kernel_rfl))
  f128 := Tryz.func151.trans (congrArg some (by kernel_rfl))
  f129 := Tryz.func152.trans (congrArg some (by kernel_rfl))
  f190 := Tryz.func82.trans (congrArg some (by kernel_rfl))
  f258 := Tryz.func109.trans (congrArg some (by kernel_rfl))
  f302 := Tryz.func142.trans (congrArg some (by kernel_rfl))
  f303 := Tryz.func143.trans (congrArg some (by kernel_rfl))
  f304 := Tryz.func144.trans (congrArg some (by kernel_rfl))
  f305 := Tryz.func145.trans (congrArg some (by kernel_rfl))
  f306 := Tryz.func146.trans (congrArg some (by kernel_rfl))
  f307 := Tryz.func147.trans (congrArg some (by kernel_rfl))
  f308 := Tryz.func148.trans (congrArg some (by kernel_rfl))
  f309 := Tryz.func149.trans (congrArg some (by kernel_rfl))
  f310 := Tryz.func150.trans (congrArg some (by kernel_rfl))
  f329 := Tryz.func178.trans (congrArg some (by kernel_rfl))
  f330 := Tryz.func179.trans (congrArg some (by kernel_rfl))
  f333 := Tryz.func177.trans (congrArg some (by kernel_rfl))
  f334 := Tryz.func180.trans (congrArg some (by kernel_rfl))
  f335 := Tryz.func181.trans (congrArg some (by kernel_rfl))
  f336 := Tryz.func182.trans (congrArg some (by kernel_rfl))
  f344 := Tryz.func189.trans (congrArg some (by kernel_rfl))
  t0 := Tryz.underlying0
  a0 := Tryz.isAgg0
  z0 := Tryz.sizeOf0
  v0 := Tryz.zeroValue0
  t3 := Tryz.underlying3
  a3 := Tryz.isAgg3
  z3 := Tryz.sizeOf3
  v3 := Tryz.zeroValue3
  t4 := Tryz.underlying4
  a4 := Tryz.isAgg4
  z4 := Tryz.sizeOf4
  v4 := Tryz.zeroValue4
  t5 := Tryz.underlying5
  a5 := Tryz.isAgg5
  z5 := Tryz.sizeOf5
  v5 := Tryz.zeroValue5
  t9 := Tryz.underlying9
  a9 := Tryz.isAgg9
  z9 := Tryz.sizeOf9
  v9 := Tryz.zeroValue9
  t31 := Tryz.underlying23
  a31 := Tryz.isAgg23
  z31 := Tryz.sizeOf23
  v31 := Tryz.zeroValue23
  t46 := Tryz.underlying154
  a46 := Tryz.isAgg154
  z46 := Tryz.sizeOf154
  v46 := Tryz.zeroValue154
  t51 := Tryz.underlying43
  a51 := Tryz.isAgg43
  z51 := Tryz.sizeOf43
  v51 := Tryz.zeroValue43
  t53 := Tryz.underlying197
  a53 := Tryz.isAgg197
  z53 := Tryz.sizeOf197
  v53 := Tryz.zeroValue197
  t131 := Tryz.underlying38
  a131 := Tryz.isAgg38
  z131 := Tryz.sizeOf38
  v131 := Tryz.zeroValue38
  t182 := Tryz.underlying188
  a182 := Tryz.isAgg188
  z182 := Tryz.sizeOf188
  v182 := Tryz.zeroValue188
  t183 := Tryz.underlying189
  a183 := Tryz.isAgg189
  z183 := Tryz.sizeOf189
  v183 := Tryz.zeroValue189
  t218 := Tryz.underlying212
  a218 := Tryz.isAgg212
  z218 := Tryz.sizeOf212
  v218 := Tryz.zeroValue212
  t222 := Tryz.underlying216
  a222 := Tryz.isAgg216
  z222 := Tryz.sizeOf216
  v222 := Tryz.zeroValue216
  t228 := Tryz.underlying221
  a228 := Tryz.isAgg221
  z228 := Tryz.sizeOf221
  v228 := Tryz.zeroValue221
  t229 := Tryz.underlying222
  a229 := Tryz.isAgg222
  z229 := Tryz.sizeOf222
  v229 := Tryz.zeroValue222 }
open Go.Sort Go.RowKit in
theorem Tryz.slices_Sort_string (blk off cap : Nat) (ss : List (List UInt8)) (w : World) (hH : Holds encStr w blk off ss.toArray) (hblk : blk < w.heap.size) (hsz : ss.length < 4611686018427387904) :
    Calls Tryz.prog 82 #[.slice (some ⟨blk, off, none⟩) ss.length cap] w fun e w' =>
      e = .returned (.tuple #[]) ∧ ∃ n os, w' = grow (putRow encStr (Sort.ahead w n) blk off (ss.mergeSort fun x y => decide (x ≤ y)).toArray) os := Any.slices_Sort_string Tryz.lays190 blk off cap ss w hH hblk hsz
def Tryz.laysNm216_ren : Go.Shelf.Ren := ⟨fun | 16 => 23 | n => n, fun | 24 => 23 | 9 => 9 | 4 => 4 | n => n, fun | n => n⟩
theorem Tryz.laysNm216 : Go.Proofs.Lays2.n16 Tryz.prog Tryz.laysNm216_ren := {
  mixed := by kernel_rfl
  f16 := Tryz.func23.trans (congrArg some (by kernel_rfl))
  t4 := Tryz.underlying4
  a4 := Tryz.isAgg4
  z4 := Tryz.sizeOf4
  v4 := Tryz.zeroValue4
  t9 := Tryz.underlying9
  a9 := Tryz.isAgg9
  z9 := Tryz.sizeOf9
  v9 := Tryz.zeroValue9
  t24 := Tryz.underlying23
  a24 := Tryz.isAgg23
  z24 := Tryz.sizeOf23
  v24 := Tryz.zeroValue23
  i9 := by kernel_rfl }
open Go.RowKit Go.Lib in
theorem Tryz.slices_Clone_string (b off n c : Nat) (zs : List ByteArray) (w : World) (hz : n ≤ zs.length) (hbig : n * 16 ≤ 140737488355328) (hc : ∀ j, j < zs.length → w.cell? ⟨b, off + j, none⟩ = some (.string (zs.getD j ByteArray.empty))) :
    Calls Tryz.prog 23 #[.slice (some ⟨b, off, none⟩) n c] w fun e w' => ∃ v', e = .returned v' ∧ w'.ownsRow w.heap.size 9 1 v' n ((zs.take n).map (Value.string)) ∧ v' ≠ .slice none 0 0 ∧ Below w.heap.size w w' := Any.slices_Clone_string Tryz.laysNm216 b off n c zs w hz hbig hc
open Go.RowKit Go.Lib in
theorem Tryz.slices_Clone_string_nil (n c : Nat) (w : World) :
    Calls Tryz.prog 23 #[.slice none n c] w fun e w' => e = .returned (.slice none 0 0) ∧ w' = w := Any.slices_Clone_string_nil Tryz.laysNm216 n c w
open Go.RowKit Go.Lib in
theorem Tryz.slices_Clone_string_zero (a : Addr) (c : Nat) (w : World) :
    Calls Tryz.prog 23 #[.slice (some a) 0 c] w fun e w' => ∃ v', e = .returned v' ∧ w'.ownsRow w.heap.size 9 1 v' 0 [] ∧ v' ≠ .slice none 0 0 ∧ Below w.heap.size w w' := Any.slices_Clone_string_zero Tryz.laysNm216 a c w
def Tryz.lays194_ren : Go.Shelf.Ren := ⟨fun | 194 => 55 | n => n, fun | 31 => 23 | 9 => 9 | 3 => 3 | 4 => 4 | 0 => 0 | n => n, fun | n => n⟩
theorem Tryz.lays194 : Go.Proofs.Lays.n194 Tryz.prog Tryz.lays194_ren := {
  mixed := by kernel_rfl
  f194 := Tryz.func55.trans (congrArg some (by kernel_rfl))
  t0 := Tryz.underlying0
  a0 := Tryz.isAgg0
  z0 := Tryz.sizeOf0
  v0 := Tryz.zeroValue0
  t3 := Tryz.underlying3
  a3 := Tryz.isAgg3
  z3 := Tryz.sizeOf3
  v3 := Tryz.zeroValue3
  t4 := Tryz.underlying4
  a4 := Tryz.isAgg4
  z4 := Tryz.sizeOf4
  v4 := Tryz.zeroValue4
  t9 := Tryz.underlying9
  a9 := Tryz.isAgg9
  z9 := Tryz.sizeOf9
  v9 := Tryz.zeroValue9
  t31 := Tryz.underlying23
  a31 := Tryz.isAgg23
  z31 := Tryz.sizeOf23
  v31 := Tryz.zeroValue23 }
open Go.RowKit Go.Lib Go.Sort in
theorem Tryz.slices_Compact_string_arr (blk off cap : Nat) (d : Array (List UInt8)) (w : World) (hH : Holds encStr w blk off d) (hsz : d.size ≤ 9223372036854775807) (hcap : d.size ≤ cap) :
    Calls Tryz.prog 55 #[.slice (some ⟨blk, off, none⟩) d.size cap] w fun e w' => e = .returned (.slice (some ⟨blk, off, none⟩) (compactUpTo d d.size).length cap) ∧ ∃ q, w' = putRow encStr (Sort.ahead w q) blk off (compactUpTo d d.size ++ List.replicate (d.size - (compactUpTo d d.size).length) []).toArray := Any.slices_Compact_string_arr Tryz.lays194 blk off cap d w hH hsz hcap
open Go.RowKit Go.Lib Go.Sort in
theorem Tryz.slices_Compact_string (blk off cap : Nat) (zs : List (List UInt8)) (w : World) (hH : Holds encStr w blk off zs.toArray) (hsz : zs.length ≤ 9223372036854775807) (hcap : zs.length ≤ cap) :
    Calls Tryz.prog 55 #[.slice (some ⟨blk, off, none⟩) zs.length cap] w fun e w' => e = .returned (.slice (some ⟨blk, off, none⟩) (Lib.compact zs).length cap) ∧ ∃ q, w' = putRow encStr (Sort.ahead w q) blk off (Lib.compact zs ++ List.replicate (zs.length - (Lib.compact zs).length) []).toArray := Any.slices_Compact_string Tryz.lays194 blk off cap zs w hH hsz hcap
open Go.RowKit Go.Lib Go.Sort in
theorem Tryz.slices_Compact_string_empty (a : Option Addr) (cap : Nat) (w : World) :
    Calls Tryz.prog 55 #[.slice a 0 cap] w fun e w' => e = .returned (.slice a 0 cap) ∧ w' = w := Any.slices_Compact_string_empty Tryz.lays194 a cap w
open Go.RowKit Go.Lib Go.Sort in
theorem Tryz.slices_Compact_string_cells (b off n c : Nat) (Sx : Nat → ByteArray) (w : World) (hbig : n ≤ 9223372036854775807) (hcap : n ≤ c) (hc : ∀ i, i < n → w.cell? ⟨b, off + i, none⟩ = some (.string (Sx i))) (hf : ∀ j, j < n → w.frozen? ⟨b, off + j, none⟩ = false) :
    Calls Tryz.prog 55 #[.slice (some ⟨b, off, none⟩) n c] w fun e w' => e = .returned (.slice (some ⟨b, off, none⟩) (Lib.compact (Lib.strsOf Sx n)).length c) ∧ ∃ q, w' = (w.drewN q).setCells b off ((Lib.compact (Lib.strsOf Sx n) ++ List.replicate (n - (Lib.compact (Lib.strsOf Sx n)).length) []).map encStr) := Any.slices_Compact_string_cells Tryz.lays194 b off n c Sx w hbig hcap hc hf
open Go.RowKit Go.Sort in
theorem Tryz.slices_Sort_string_none (p : Option Addr) (cap : Nat) (w : World) :
    Calls Tryz.prog 82 #[.slice p 0 cap] w fun e w' => e = .returned (.tuple #[]) ∧ w' = w := Any.slices_Sort_string_none Tryz.lays190 p cap w
def Tryz.lays291_ren : Go.Shelf.Ren := ⟨fun | 291 => 190 | n => n, fun | 37 => 33 | 51 => 43 | 3 => 3 | 4 => 4 | 0 => 0 | 5 => 5 | 46 => 154 | n => n, fun | n => n⟩
theorem Tryz.lays291 : Go.Proofs.Lays.n291 Tryz.prog Tryz.lays291_ren := {
  mixed := by kernel_rfl
  f291 := Tryz.func190.trans (congrArg some (by kernel_rfl))
  t0 := Tryz.underlying0
  a0 := Tryz.isAgg0
  z0 := Tryz.sizeOf0
  v0 := Tryz.zeroValue0
  t3 := Tryz.underlying3
  a3 := Tryz.isAgg3
  z3 := Tryz.sizeOf3
  v3 := Tryz.zeroValue3
  t4 := Tryz.underlying4
  a4 := Tryz.isAgg4
  z4 := Tryz.sizeOf4
  v4 := Tryz.zeroValue4
  t5 := Tryz.underlying5
  a5 := Tryz.isAgg5
  z5 := Tryz.sizeOf5
  v5 := Tryz.zeroValue5
  t37 := Tryz.underlying33
  a37 := Tryz.isAgg33
  z37 := Tryz.sizeOf33
  v37 := Tryz.zeroValue33
  t46 := Tryz.underlying154
  a46 := Tryz.isAgg154
  z46 := Tryz.sizeOf154
  v46 := Tryz.zeroValue154
  t51 := Tryz.underlying43
  a51 := Tryz.isAgg43
  z51 := Tryz.sizeOf43
  v51 := Tryz.zeroValue43 }
open Go.RowKit Go.Lib in
theorem Tryz.bytealg_hashStr_bytes (b o c : Nat) (sep : ByteArray) (hs : sep.size < 4294967281) (w : World) (hc : Lib.Bytes w b o sep) :
    Calls Tryz.prog 190 #[.slice (some ⟨b, o, none⟩) sep.size c] w fun e w' => e = .returned (.tuple #[.int .u32 (RK.H sep.data.toList % 4294967296), .int .u32 (16777619 ^ sep.size % 4294967296)]) ∧ w' = w := Any.bytealg_hashStr_bytes Tryz.lays291 b o c sep hs w hc
def Tryz.lays254_ren : Go.Shelf.Ren := ⟨fun | 254 => 185 | 291 => 190 | n => n, fun | 37 => 33 | 3 => 3 | 146 => 224 | 51 => 43 | 4 => 4 | 0 => 0 | 5 => 5 | 9 => 9 | 46 => 154 | n => n, fun | n => n⟩
theorem Tryz.lays254 : Go.Proofs.Lays.n254 Tryz.prog Tryz.lays254_ren := {
  mixed := by kernel_rfl
  f254 := Tryz.func185.trans (congrArg some (by kernel_rfl))
  f291 := Tryz.func190.trans (congrArg some (by kernel_rfl))
  t0 := Tryz.underlying0
  a0 := Tryz.isAgg0
  z0 := Tryz.sizeOf0
  v0 := Tryz.zeroValue0
  t3 := Tryz.underlying3
  a3 := Tryz.isAgg3
  z3 := Tryz.sizeOf3
  v3 := Tryz.zeroValue3
  t4 := Tryz.underlying4
  a4 := Tryz.isAgg4
  z4 := Tryz.sizeOf4
  v4 := Tryz.zeroValue4
  t5 := Tryz.underlying5
  a5 := Tryz.isAgg5
  z5 := Tryz.sizeOf5
  v5 := Tryz.zeroValue5
  t9 := Tryz.underlying9
  a9 := Tryz.isAgg9
  z9 := Tryz.sizeOf9
  v9 := Tryz.zeroValue9
  t37 := Tryz.underlying33
  a37 := Tryz.isAgg33
  z37 := Tryz.sizeOf33
  v37 := Tryz.zeroValue33
  t46 := Tryz.underlying154
  a46 := Tryz.isAgg154
  z46 := Tryz.sizeOf154
  v46 := Tryz.zeroValue154
  t51 := Tryz.underlying43
  a51 := Tryz.isAgg43
  z51 := Tryz.sizeOf43
  v51 := Tryz.zeroValue43
  t146 := Tryz.underlying224
  a146 := Tryz.isAgg224
  z146 := Tryz.sizeOf224
  v146 := Tryz.zeroValue224 }
open Go.RowKit Go.Lib in
theorem Tryz.bytealg_IndexRabinKarp_bytes (b1 o1 c1 b2 o2 c2 : Nat) (s sep : ByteArray) (h1 : 1 ≤ sep.size) (h2 : sep.size ≤ s.size) (hs : s.size < 4294967281) (w : World) (hc1 : Lib.Bytes w b1 o1 s) (hc2 : Lib.Bytes w b2 o2 sep) (hcap : s.size ≤ c1) :
    Calls Tryz.prog 185 #[.slice (some ⟨b1, o1, none⟩) s.size c1, .slice (some ⟨b2, o2, none⟩) sep.size c2] w fun e w' => e = .returned (.int .i64 (Lib.index s.data.toList sep.data.toList)) ∧ ∃ q, w' = w.drewN q := Any.bytealg_IndexRabinKarp_bytes Tryz.lays254 b1 o1 c1 b2 o2 c2 s sep h1 h2 hs w hc1 hc2 hcap
def Tryz.laysSlE041_f23_ren : Go.Shelf.Ren := ⟨fun | 41 => 23 | n => n, fun | 22 => 23 | 23 => 9 | 4 => 4 | n => n, fun | n => n⟩
theorem Tryz.laysSlE041_f23 : Go.Proofs.SlLaysE0.n41 Tryz.prog Tryz.laysSlE041_f23_ren := {
  mixed := by kernel_rfl
  f41 := ⟨Tryz.f23.name, by decide, Tryz.func23.trans (congrArg some (by kernel_rfl))⟩
  t4 := Tryz.underlying4
  a4 := Tryz.isAgg4
  z4 := Tryz.sizeOf4
  v4 := Tryz.zeroValue4
  t22 := Tryz.underlying23
  a22 := Tryz.isAgg23
  z22 := Tryz.sizeOf23
  v22 := Tryz.zeroValue23 }
open Go.RowKit Go.Lib in
theorem Tryz.slices_Clone (i0 : TypeInfo) (z : Value) (size bytes : Nat) (hi : Tryz.prog.info? 9 = some i0) (hz0 : i0.zero = some z) (hz1 : i0.size = size) (hz2 : i0.bytes = bytes) (hzs : z.cells.size = size) (hsz : 0 < size) (z23 : ∀ w, (Go.sizeOf 9).run Tryz.prog w = .ok size w) (b off n c : Nat) (news : List Value) (w : World) (hl : news.length = n * size) (hn : n ≤ maxLen) (hbig : n * bytes ≤ 140737488355328) (hc : ∀ j u, news[j]? = some u → w.cell? ⟨b, off + j, none⟩ = some u) (h1 : ∀ u ∈ news, u.oneCell' = true) :
    Calls Tryz.prog 23 #[.slice (some ⟨b, off, none⟩) n c] w fun e w' => ∃ v', e = .returned v' ∧ w'.ownsRow w.heap.size 9 size v' n news ∧ v' ≠ .slice none 0 0 ∧ Below w.heap.size w w' := AnyE.slices_Clone Tryz.laysSlE041_f23 i0 z size bytes hi hz0 hz1 hz2 hzs hsz z23 b off n c news w hl hn hbig hc h1
open Go.RowKit Go.Lib in
theorem Tryz.slices_Clone_nil (n c : Nat) (w : World) :
    Calls Tryz.prog 23 #[.slice none n c] w fun e w' => e = .returned (.slice none 0 0) ∧ w' = w := AnyE.slices_Clone_nil Tryz.laysSlE041_f23 n c w
def Tryz.lays187_ren : Go.Shelf.Ren := ⟨fun | 187 => 111 | 255 => 153 | n => n, fun | 37 => 33 | 5 => 5 | 3 => 3 | n => n, fun | n => n⟩
theorem Tryz.lays187 : Go.Proofs.Lays.n187 Tryz.prog Tryz.lays187_ren := {
  mixed := by kernel_rfl
  f187 := Tryz.func111.trans (congrArg some (by kernel_rfl))
  f255 := Tryz.func153.trans (congrArg some (by kernel_rfl))
  t3 := Tryz.underlying3
  a3 := Tryz.isAgg3
  z3 := Tryz.sizeOf3
  v3 := Tryz.zeroValue3
  t5 := Tryz.underlying5
  a5 := Tryz.isAgg5
  z5 := Tryz.sizeOf5
  v5 := Tryz.zeroValue5
  t37 := Tryz.underlying33
  a37 := Tryz.isAgg33
  z37 := Tryz.sizeOf33
  v37 := Tryz.zeroValue33 }
theorem Tryz.bytes_IndexByte (b o n c : Nat) (xs : List Int) (cv : Int) (w : World) (hx : xs.length = n) (hc : ∀ i, i < n → w.cell? ⟨b, o + i, none⟩ = some (.int .u8 (xs.getD i 0))) :
    Calls Tryz.prog 111 #[.slice (some ⟨b, o, none⟩) n c, .int .u8 cv] w fun e w' => e = .returned (.int .i64 (Lib.indexByte (Lib.bytesOf xs) cv.toNat.toUInt8)) ∧ w' = w := Any.bytes_IndexByte Tryz.lays187 b o n c xs cv w hx hc
theorem Tryz.bytes_IndexByte_nil (cv : Int) (w : World) :
    Calls Tryz.prog 111 #[.slice none 0 0, .int .u8 cv] w fun e w' => e = .returned (.int .i64 (-1)) ∧ w' = w := Any.bytes_IndexByte_nil Tryz.lays187 cv w
end Go.Proofs
namespace Go.Dm
/-! ### bytes.Index -/
/-- A contract of somebody else's, that leaves the memory as it was. -/
theorem pcall_same {P : Program} {f : FuncId} {ds : List D} {d : D} (hf : FnOK P f)
    (h : ∀ (E : Env) (w : World) (vs : List Value), ImOK E w → GlOK E → rels ds E vs → ∃ v, rel d E v ∧ Calls P f vs.toArray w fun e w' => e = .returned v ∧ ∃ q, w' = w.drewN q) : PCall P f [] ds (.ret d []) := by
  refine ⟨hf, fun E w vs hi hnew hr => ?_⟩
  obtain ⟨v, h1, h2⟩ := h E w vs hi.im hi.gl hr
  refine Calls.mono h2 fun e w' he => ?_
  obtain ⟨rfl, q, rfl⟩ := he
  have hh : (w.drewN q).heap = w.heap := rfl
  exact ⟨v, E, rfl, ⟨Step.heap hh rfl rfl rfl, hi.heap hh, fun _ _ => ⟨rfl, rfl⟩, fun _ hp => (by cases hp)⟩, h1⟩
namespace Tryz
open Go.Proofs
theorem bytealgCutover {n : Nat} (h : n < 4611686018427387904) : PCall Tryz.prog 184 [] [.v (.int .i64 n)] (.ret (.v (.int .i64 (((n : Int) + 16) / 8))) []) := by
  refine pcall_same ⟨_, Tryz.func184, rfl, by decide⟩ fun E w vs him hgl hr => ?_
  obtain ⟨v, ws, e1, h1, e2⟩ := hr
  subst e1; subst e2
  obtain rfl : v = _ := h1
  exact ⟨_, rfl, Calls.mono (Tryz.bytealg_Cutover n (by omega) (by omega) w) fun e w' ⟨h1, h2⟩ => ⟨h1, 0, h2⟩⟩
theorem bytealgRabinKarp (b s : List UInt8) (h1 : 1 ≤ s.length) (h2 : s.length ≤ b.length) (h3 : b.length < 4294967281) :
    PCall Tryz.prog 185 [] [.list 1 (byD b), .list 1 (byD s)] (.ret (.v (.int .i64 (Lib.index b s))) []) := by
  refine pcall_same ⟨_, Tryz.func185, rfl, by decide⟩ fun E w vs him hgl hr => ?_
  obtain ⟨v, ws, e1, g1, u, ws', e2, g2, e3⟩ := hr
  subst e1; subst e2; subst e3
  obtain ⟨a1, c1, rfl, g3, g4⟩ := list_by g1
  obtain ⟨a2, c2, rfl, g5, g6⟩ := list_by g2
  obtain ⟨b1, o1, rfl, g7⟩ := g4 (by intro e; rw [e] at h2; have := Nat.le_trans h1 h2; simp at this)
  obtain ⟨b2, o2, rfl, g8⟩ := g6 (by intro e; rw [e] at h1; simp at h1)
  refine ⟨_, rfl, ?_⟩
  have cell : ∀ (l : List UInt8) (k o : Nat), (∀ i, i < l.length → E.im k (o + i) = some (Value.int .u8 ((l.map fun c => (c.toNat : Int)).getD i 0))) → Lib.Bytes w k o ⟨l.toArray⟩ := by
    intro l k o hh i hi
    have hi' : i < l.length := hi
    have := him _ _ _ (hh i hi')
    rw [this]
    simp [hi']
    rfl
  exact Tryz.bytealg_IndexRabinKarp_bytes b1 o1 c1 b2 o2 c2 ⟨b.toArray⟩ ⟨s.toArray⟩ h1 h2 h3 w (cell b b1 o1 g7) (cell s b2 o2 g8) g3
/-- The model's entry internal/bytealg.Index, where the needle isn't too long. -/
theorem eIndex {m : Int} (b s : List UInt8) (h2 : 2 ≤ s.length) (hm : (s.length : Int) ≤ m) (hb : b.length < 4294967281) :
    ECall Tryz.prog (.ptr [.v (.int .i64 m)]) 183 [.list 1 (byD b), .list 1 (byD s)] (.v (.int .i64 (Lib.index b s))) := by
  intro E w vs him hg ⟨v, ws, e1, g1, u, ws', e2, g2, e3⟩
  subst e1; subst e2; subst e3
  obtain ⟨a1, c1, rfl, g3, g4⟩ := list_by g1
  obtain ⟨a2, c2, rfl, g5, g6⟩ := list_by g2
  obtain ⟨b2, o2, rfl, g8⟩ := g6 (by intro e; rw [e] at h2; simp at h2)
  obtain ⟨kb, ko, hk1, ⟨mv, hk2, hk3⟩, _⟩ := hg
  injection hk1 with hk1; injection hk1 with hk1; injection hk1 with hk1 hk4
  subst hk1; subst hk4
  obtain rfl : mv = _ := hk3
  have hcell : w.cell? ⟨maxLenG, 0, none⟩ = some (.int .i64 m) := him _ _ _ hk2
  have ld : ∀ (l : List UInt8) (k o : Nat), (∀ i, i < l.length → E.im k (o + i) = some (Value.int .u8 ((l.map fun c => (c.toNat : Int)).getD i 0))) →
      (Extern.Bytes.loadBytes ⟨k, o, none⟩ l.length .empty).run Tryz.prog w = .ok ⟨l.toArray⟩ w := by
    intro l k o hh
    have := Lib.run_loadBytesX (P := Tryz.prog) w (l.map fun c => (c.toNat : Int)) ⟨k, o, none⟩ .empty (fun j x hj => by
      have hjl : j < l.length := by have := (List.getElem?_eq_some_iff.1 hj).1; simpa using this
      rw [add_plain, him _ _ _ (hh j hjl), List.getD_eq_getElem?_getD, hj]; rfl)
    rw [List.length_map, bytesOf_nat] at this
    rw [this]
    congr 1
    show ByteArray.mk (#[] ++ l.toArray) = _
    simp
  have hrest : ∃ rest : ByteArray → ByteArray → Sem Value, ∀ x y, Extern.BytealgIndex.index #[x, y] = Extern.Bytes.bytesOf x >>= fun a => Extern.Bytes.bytesOf y >>= fun b => rest a b := ⟨_, fun _ _ => rfl⟩
  obtain ⟨rest, hrest⟩ := hrest
  have hb1 : (Extern.Bytes.bytesOf (.slice a1 b.length c1)).run Tryz.prog w = .ok ⟨b.toArray⟩ w := by
    cases b with
    | nil =>
      cases a1 with
      | none => rfl
      | some a => rfl
    | cons c b =>
      obtain ⟨b1, o1, rfl, g7⟩ := g4 (by simp)
      exact ld _ _ _ g7
  have hb2 : (Extern.Bytes.bytesOf (.slice (some ⟨b2, o2, none⟩) s.length c2)).run Tryz.prog w = .ok ⟨s.toArray⟩ w := ld _ _ _ g8
  have hs := Lib.run_indexString (P := Tryz.prog) ⟨b.toArray⟩ ⟨s.toArray⟩ w maxLenG m (by kernel_rfl) hcell h2 hm hb
  have hrun : (Extern.BytealgIndex.index #[.slice a1 b.length c1, .slice (some ⟨b2, o2, none⟩) s.length c2]).run Tryz.prog w = .ok (.int .i64 (Lib.index b s)) w := by
    rw [hrest] at hs ⊢
    rw [Sem.run_bind, hb1]
    simp only [Result.andThen_ok]
    rw [Sem.run_bind, hb2]
    simp only [Result.andThen_ok]
    exact hs
  refine ⟨_, ?_, rfl⟩
  rw [run_callFunc_extern Tryz.func183 (by kernel_rfl) (by kernel_rfl) (by kernel_rfl) (e := Extern.BytealgIndex.index) (by kernel_rfl)]
  show Result.andThen (Sem.run Tryz.prog (Extern.BytealgIndex.index #[.slice a1 b.length c1, .slice (some ⟨b2, o2, none⟩) s.length c2]) w) _ = _
  rw [hrun]
  rfl
end Tryz
end Go.Dm
namespace Go.Dm
theorem frOK_two (d1 d2 : D) (m : Int) : FrOK [(0, d1), (1, d2), (100000 + maxLenG, .ptr [.v (.int .i64 m)])] [d1, d2] m := by
  intro t
  unfold gd
  simp only [argsFr, get_cons]
  by_cases h0 : 0 = t
  · exact .inl (by rw [if_pos h0, if_pos h0])
  by_cases h1 : 1 = t
  · exact .inl (by rw [if_neg h0, if_pos h1, if_neg h0, if_pos (by omega)])
  by_cases h2 : 100000 + maxLenG = t
  · exact .inr ⟨h2.symm, by rw [if_neg h0, if_neg h1, if_pos h2]⟩
  · refine .inl ?_
    rw [if_neg h0, if_neg h1, if_neg h2, if_neg h0, if_neg (by omega)]
theorem occ_piece {b s : List UInt8} {j : Nat} (h : j + s.length ≤ b.length) : Lib.occAt b s j = true ↔ (b.take (j + s.length)).drop j = s := by
  unfold Lib.occAt
  rw [List.isPrefixOf_iff_prefix, List.prefix_iff_eq_take, List.drop_take, Nat.add_sub_cancel_left]
  exact eq_comm
namespace Tryz
open Go.Proofs
set_option maxHeartbeats 2000000 in
theorem bytesIndex (b s : List UInt8) (h1 : 1 ≤ s.length) (hb : b.length < 4294967281) :
    PCall Tryz.prog 155 [] [.list 1 (byD b), .list 1 (byD s)] (.ret (.v (.int .i64 (Lib.index b s))) []) := by
  refine pcall_gen (news := []) cxOK Tryz.func155 rfl Tryz.ntmps155 rfl rfl rfl (by decide) (fun m => [(0, .list 1 (byD b)), (1, .list 1 (byD s)), (100000 + maxLenG, .ptr [.v (.int .i64 m)])]) (fun m => frOK_two _ _ m) fun m => ?_
  repeat' ((conv => whnf); first | exact trivial | refine aB rfl ?_ | refine sY rfl ?_ | refine sN rfl ?_ | refine sM (fun _ => ?_) (fun _ => ?_) | refine cK (by kernel_rfl) ?_ | refine And.intro ?_ ?_ | exact Or.inl ⟨rfl, rfl⟩ | exact rfl)
  all_goals (conv => whnf)
  · rename_i h
    have h := decT h
    rw [byD_length] at h
    omega
  · rename_i h0 h
    have h := decT h
    rw [byD_length] at h
    match s, h with
    | [c], _ =>
    refine IdxG.by 0 c rfl rfl ?_
    conv => whnf
    refine call0 (bytesIndexByte b c) ?_
    conv => whnf
    rw [Lib.index_one]
  · rename_i h0 h2 h
    have h := decT h
    rw [byD_length, byD_length] at h
    refine call0 (bytesEqual s b) ?_
    repeat' ((conv => whnf); first | exact trivial | refine aB rfl ?_ | refine sY rfl ?_ | refine sN rfl ?_ | refine sM (fun _ => ?_) (fun _ => ?_) | refine cK (by kernel_rfl) ?_ | refine And.intro ?_ ?_ | exact Or.inl ⟨rfl, rfl⟩ | exact rfl)
    all_goals (conv => whnf)
    · rename_i h3
      have h3 := decT h3
      subst h3
      rw [Lib.index_self]
    · rename_i h3
      have h3 := decF h3
      rw [Lib.index_long (by omega) h3]
  · rename_i h0 h2 h3 h
    have h := decT h
    rw [byD_length, byD_length] at h
    rw [Lib.index_long (by omega) (by intro e; subst e; omega)]
  · rename_i h0 h2 h3 h4 hm h
    have h0 := decF h0
    have h2 := decF h2
    have hm := decT hm
    rw [byD_length] at h0 h2 hm
    exact callE (eIndex b s (by omega) hm hb) rfl
  · rename_i h0 h2 h3 h4 hm h
    have h0 := decF h0
    have h2 := decF h2
    have h3 := decF h3
    have h4 := decF h4
    have hm := decT hm
    rw [byD_length] at h0 h2 h3 h4 hm
    rw [byD_length] at h3 h4
    obtain ⟨c0, c1, tl, hs2⟩ : ∃ c0 c1 tl, s = c0 :: c1 :: tl := by
      match s, h0, h2 with
      | [], h0, _ => exact absurd rfl h0
      | [_], _, h2 => exact absurd rfl h2
      | c0 :: c1 :: tl, _, _ => exact ⟨c0, c1, tl, rfl⟩
    refine IdxG.by 0 c0 rfl (by rw [hs2]; rfl) ?_
    conv => whnf
    refine IdxG.by 1 c1 rfl (by rw [hs2]; rfl) ?_
    conv => whnf
    refine KI.i64 ((b.length : Int) - s.length) (by rw [byD_length, byD_length]) (by omega) ?_
    conv => whnf
    refine KI.i64 ((b.length - s.length + 1 : Nat) : Int) (by omega) (by omega) ?_
    conv => whnf
    refine LoopW.to (ι := Nat × Nat) (fun p => Lib.NoOcc b s p.1 ∧ p.1 ≤ b.length ∧ p.2 ≤ p.1) (fun p => b.length + 1 - p.1)
      (fun p => [(0, .list 1 (byD b)), (1, .list 1 (byD s)), (5, .v (.int .i64 s.length)), (6, .v (.int .u8 c0.toNat)), (7, .v (.int .u8 c1.toNat)), (8, .v (.int .i64 p.1)), (9, .v (.int .i64 (b.length - s.length + 1 : Nat))), (10, .v (.int .i64 p.2)), (100000 + maxLenG, .ptr [.v (.int .i64 m)])])
      (fun _ => []) [] (0, 0) ⟨Lib.NoOcc.zero b s, Nat.zero_le _, Nat.le_refl _⟩ ⟨⟨rfl, rfl, congrArg (fun k : Nat => D.v (.int .i64 (k : Int))) (byD_length s), rfl, rfl, rfl, rfl, rfl, rfl, trivial⟩, trivial⟩ ?_
    rintro ⟨i, fails⟩ ⟨hno, hi, hfl⟩
    simp only at hno hi hfl
    repeat' ((conv => whnf); first | exact trivial | refine aB rfl ?_ | refine sY rfl ?_ | refine sN rfl ?_ | refine sM (fun _ => ?_) (fun _ => ?_) | refine cK (by kernel_rfl) ?_ | refine And.intro ?_ ?_ | exact Or.inl ⟨rfl, rfl⟩ | exact rfl)
    all_goals (conv => whnf)
    · rename_i hlt
      have hlt : (i : Int) < ((b.length - s.length + 1 : Nat) : Int) := decT hlt
      have hsl : s.length = tl.length + 2 := by rw [hs2]; rfl
      refine IdxG.by i b[i] rfl (List.getElem?_eq_getElem (by omega)) ?_
      repeat' ((conv => whnf); first | exact trivial | refine aB rfl ?_ | refine sY rfl ?_ | refine sN rfl ?_ | refine sM (fun _ => ?_) (fun _ => ?_) | refine cK (by kernel_rfl) ?_ | refine And.intro ?_ ?_ | exact Or.inl ⟨rfl, rfl⟩ | exact rfl)
      all_goals (conv => whnf)
      · rename_i hc
        have hc : b[i]? ≠ some c0 := by
          rw [List.getElem?_eq_getElem (by omega)]
          intro e
          injection e with e
          have hc := decF (notT hc)
          rw [e] at hc
          exact hc rfl
        refine KI.i64 ((i + 1 : Nat) : Int) (by simp) (by omega) ?_
        conv => whnf
        refine BndG.to (i + 1) rfl ?_
        conv => whnf
        refine BndG.to (b.length - s.length + 1) rfl ?_
        conv => whnf
        refine CutL.by ((b.drop (i + 1)).take (b.length - s.length + 1 - (i + 1))) (by omega) (by omega) (by rw [List.drop_take]) ?_
        conv => whnf
        refine call0 (bytesIndexByte _ c0) ?_
        have hge := Lib.indexByte_ge ((b.drop (i + 1)).take (b.length - s.length + 1 - (i + 1))) c0
        repeat' ((conv => whnf); first | exact trivial | refine aB rfl ?_ | refine sY rfl ?_ | refine sN rfl ?_ | refine sM (fun _ => ?_) (fun _ => ?_) | refine cK (by kernel_rfl) ?_ | refine And.intro ?_ ?_ | exact Or.inl ⟨rfl, rfl⟩ | exact rfl)
        all_goals (conv => whnf)
        · rename_i ho
          have ho := decT ho
          rw [Lib.index_skip_none (t := b.length - s.length + 1) hs2 hno hc (by omega) (by omega)]
        · rename_i ho
          have ho := decF ho
          obtain ⟨o, ho2⟩ : ∃ o : Nat, Lib.indexByte ((b.drop (i + 1)).take (b.length - s.length + 1 - (i + 1))) c0 = (o : Int) := ⟨_, (Int.toNat_of_nonneg (by omega)).symm⟩
          obtain ⟨hno2, _, hjt⟩ := Lib.noOcc_skip hs2 hno hc ho2
          refine KI.i64 ((o + 1 : Nat) : Int) (by rw [ho2]; simp) (by omega) ?_
          conv => whnf
          refine KI.i64 ((i + o + 1 : Nat) : Int) (by simp; omega) (by omega) ?_
          conv => whnf
          refine KI.i64 ((i + o + 1 + 1 : Nat) : Int) (by simp) (by omega) ?_
          conv => whnf
          refine IdxG.by (i + o + 1 + 1) b[i + o + 1 + 1] rfl (List.getElem?_eq_getElem (by omega)) ?_
          repeat' ((conv => whnf); first | exact trivial | refine aB rfl ?_ | refine sY rfl ?_ | refine sN rfl ?_ | refine sM (fun _ => ?_) (fun _ => ?_) | refine cK (by kernel_rfl) ?_ | refine And.intro ?_ ?_ | exact Or.inl ⟨rfl, rfl⟩ | exact rfl)
          all_goals (conv => whnf)
          · rename_i hc1
            refine KI.i64 ((i + o + 1 + s.length : Nat) : Int) (by simp) (by omega) ?_
            conv => whnf
            refine BndG.to (i + o + 1) rfl ?_
            conv => whnf
            refine BndG.to (i + o + 1 + s.length) rfl ?_
            conv => whnf
            refine CutL.by ((b.take (i + o + 1 + s.length)).drop (i + o + 1)) (by omega) (by omega) rfl ?_
            conv => whnf
            refine call0 (bytesEqual _ _) ?_
            repeat' ((conv => whnf); first | exact trivial | refine aB rfl ?_ | refine sY rfl ?_ | refine sN rfl ?_ | refine sM (fun _ => ?_) (fun _ => ?_) | refine cK (by kernel_rfl) ?_ | refine And.intro ?_ ?_ | exact Or.inl ⟨rfl, rfl⟩ | exact rfl)
            all_goals (conv => whnf)
            · rename_i he
              have he := decT he
              rw [Lib.index_hit hno2 (by omega) ((occ_piece (by omega)).2 he)]
            · rename_i he
              have he := decF he
              have hmiss : Lib.NoOcc b s (i + o + 1 + 1) := hno2.succ (by
                cases ho : Lib.occAt b s (i + o + 1) with
                | false => rfl
                | true => exact absurd ((occ_piece (by omega)).1 ho) he)
              refine KI.i64 ((fails + 1 : Nat) : Int) (by simp) (by omega) ?_
              conv => whnf
              refine KI.i64 ((i + o + 1 + 1 : Nat) : Int) (by simp) (by omega) ?_
              conv => whnf
              refine call0 (bytealgCutover (n := i + o + 1 + 1) (by omega)) ?_
              repeat' ((conv => whnf); first | exact trivial | refine aB rfl ?_ | refine sY rfl ?_ | refine sN rfl ?_ | refine sM (fun _ => ?_) (fun _ => ?_) | refine cK (by kernel_rfl) ?_ | refine And.intro ?_ ?_ | exact Or.inl ⟨rfl, rfl⟩ | exact rfl)
              all_goals (conv => whnf)
              · refine BndG.to (i + o + 1 + 1) rfl ?_
                conv => whnf
                refine CutL.by (b.drop (i + o + 1 + 1)) (by rw [byD_length]; omega) (by rw [byD_length]; exact Nat.le_refl _) (by rw [byD_length, List.take_length]) ?_
                conv => whnf
                refine callE (eIndex (b.drop (i + o + 1 + 1)) s (by omega) hm (by simp; omega)) ?_
                have hdr := Lib.index_drop hmiss (by omega : i + o + 1 + 1 ≤ b.length)
                have hle := Lib.index_le (b.drop (i + o + 1 + 1)) s
                rw [List.length_drop] at hle
                repeat' ((conv => whnf); first | exact trivial | refine aB rfl ?_ | refine sY rfl ?_ | refine sN rfl ?_ | refine sM (fun _ => ?_) (fun _ => ?_) | refine cK (by kernel_rfl) ?_ | refine And.intro ?_ ?_ | exact Or.inl ⟨rfl, rfl⟩ | exact rfl)
                all_goals (conv => whnf)
                · rename_i hr
                  have hr := decT hr
                  refine KI.i64 (Lib.index (b.drop (i + o + 1 + 1)) s + ((i + o + 1 + 1 : Nat) : Int)) rfl (by omega) ?_
                  conv => whnf
                  rw [hdr, if_neg (by rw [beq_iff_eq]; omega)]
                · rename_i hr
                  have hr := decF hr
                  have hge := Lib.index_ge (b.drop (i + o + 1 + 1)) s
                  rw [hdr, if_pos (by rw [beq_iff_eq]; omega)]
              · exact NextG.to (i + o + 1 + 1, fails + 1) ⟨hmiss, by simp only; omega, by simp only; omega⟩ (by simp only; omega) ⟨⟨rfl, rfl, rfl, rfl, rfl, rfl, rfl, rfl, rfl, trivial⟩, trivial⟩
          · rename_i hc1
            have hmiss : Lib.NoOcc b s (i + o + 1 + 1) := hno2.succ (by
              cases ho : Lib.occAt b s (i + o + 1) with
              | false => rfl
              | true =>
                exfalso
                have hx := Lib.occAt_second hs2 ho
                rw [List.getElem?_eq_getElem (by omega)] at hx
                injection hx with hx
                have hc1 := decF hc1
                rw [hx] at hc1
                exact hc1 rfl)
            refine KI.i64 ((fails + 1 : Nat) : Int) (by simp) (by omega) ?_
            conv => whnf
            refine KI.i64 ((i + o + 1 + 1 : Nat) : Int) (by simp) (by omega) ?_
            conv => whnf
            refine call0 (bytealgCutover (n := i + o + 1 + 1) (by omega)) ?_
            repeat' ((conv => whnf); first | exact trivial | refine aB rfl ?_ | refine sY rfl ?_ | refine sN rfl ?_ | refine sM (fun _ => ?_) (fun _ => ?_) | refine cK (by kernel_rfl) ?_ | refine And.intro ?_ ?_ | exact Or.inl ⟨rfl, rfl⟩ | exact rfl)
            all_goals (conv => whnf)
            · refine BndG.to (i + o + 1 + 1) rfl ?_
              conv => whnf
              refine CutL.by (b.drop (i + o + 1 + 1)) (by rw [byD_length]; omega) (by rw [byD_length]; exact Nat.le_refl _) (by rw [byD_length, List.take_length]) ?_
              conv => whnf
              refine callE (eIndex (b.drop (i + o + 1 + 1)) s (by omega) hm (by simp; omega)) ?_
              have hdr := Lib.index_drop hmiss (by omega : i + o + 1 + 1 ≤ b.length)
              have hle := Lib.index_le (b.drop (i + o + 1 + 1)) s
              rw [List.length_drop] at hle
              repeat' ((conv => whnf); first | exact trivial | refine aB rfl ?_ | refine sY rfl ?_ | refine sN rfl ?_ | refine sM (fun _ => ?_) (fun _ => ?_) | refine cK (by kernel_rfl) ?_ | refine And.intro ?_ ?_ | exact Or.inl ⟨rfl, rfl⟩ | exact rfl)
              all_goals (conv => whnf)
              · rename_i hr
                have hr := decT hr
                refine KI.i64 (Lib.index (b.drop (i + o + 1 + 1)) s + ((i + o + 1 + 1 : Nat) : Int)) rfl (by omega) ?_
                conv => whnf
                rw [hdr, if_neg (by rw [beq_iff_eq]; omega)]
              · rename_i hr
                have hr := decF hr
                have hge := Lib.index_ge (b.drop (i + o + 1 + 1)) s
                rw [hdr, if_pos (by rw [beq_iff_eq]; omega)]
            · exact NextG.to (i + o + 1 + 1, fails + 1) ⟨hmiss, by simp only; omega, by simp only; omega⟩ (by simp only; omega) ⟨⟨rfl, rfl, rfl, rfl, rfl, rfl, rfl, rfl, rfl, trivial⟩, trivial⟩
      · rename_i hc
        refine KI.i64 ((i + 1 : Nat) : Int) (by simp) (by omega) ?_
        conv => whnf
        refine IdxG.by (i + 1) b[i + 1] rfl (List.getElem?_eq_getElem (by omega)) ?_
        repeat' ((conv => whnf); first | exact trivial | refine aB rfl ?_ | refine sY rfl ?_ | refine sN rfl ?_ | refine sM (fun _ => ?_) (fun _ => ?_) | refine cK (by kernel_rfl) ?_ | refine And.intro ?_ ?_ | exact Or.inl ⟨rfl, rfl⟩ | exact rfl)
        all_goals (conv => whnf)
        · rename_i hc1
          refine KI.i64 ((i + s.length : Nat) : Int) (by simp) (by omega) ?_
          conv => whnf
          refine BndG.to (i) rfl ?_
          conv => whnf
          refine BndG.to (i + s.length) rfl ?_
          conv => whnf
          refine CutL.by ((b.take (i + s.length)).drop (i)) (by omega) (by omega) rfl ?_
          conv => whnf
          refine call0 (bytesEqual _ _) ?_
          repeat' ((conv => whnf); first | exact trivial | refine aB rfl ?_ | refine sY rfl ?_ | refine sN rfl ?_ | refine sM (fun _ => ?_) (fun _ => ?_) | refine cK (by kernel_rfl) ?_ | refine And.intro ?_ ?_ | exact Or.inl ⟨rfl, rfl⟩ | exact rfl)
          all_goals (conv => whnf)
          · rename_i he
            have he := decT he
            rw [Lib.index_hit hno (by omega) ((occ_piece (by omega)).2 he)]
          · rename_i he
            have he := decF he
            have hmiss : Lib.NoOcc b s (i + 1) := hno.succ (by
              cases ho : Lib.occAt b s (i) with
              | false => rfl
              | true => exact absurd ((occ_piece (by omega)).1 ho) he)
            refine KI.i64 ((fails + 1 : Nat) : Int) (by simp) (by omega) ?_
            conv => whnf
            refine KI.i64 ((i + 1 : Nat) : Int) (by simp) (by omega) ?_
            conv => whnf
            refine call0 (bytealgCutover (n := i + 1) (by omega)) ?_
            repeat' ((conv => whnf); first | exact trivial | refine aB rfl ?_ | refine sY rfl ?_ | refine sN rfl ?_ | refine sM (fun _ => ?_) (fun _ => ?_) | refine cK (by kernel_rfl) ?_ | refine And.intro ?_ ?_ | exact Or.inl ⟨rfl, rfl⟩ | exact rfl)
            all_goals (conv => whnf)
            · refine BndG.to (i + 1) rfl ?_
              conv => whnf
              refine CutL.by (b.drop (i + 1)) (by rw [byD_length]; omega) (by rw [byD_length]; exact Nat.le_refl _) (by rw [byD_length, List.take_length]) ?_
              conv => whnf
              refine callE (eIndex (b.drop (i + 1)) s (by omega) hm (by simp; omega)) ?_
              have hdr := Lib.index_drop hmiss (by omega : i + 1 ≤ b.length)
              have hle := Lib.index_le (b.drop (i + 1)) s
              rw [List.length_drop] at hle
              repeat' ((conv => whnf); first | exact trivial | refine aB rfl ?_ | refine sY rfl ?_ | refine sN rfl ?_ | refine sM (fun _ => ?_) (fun _ => ?_) | refine cK (by kernel_rfl) ?_ | refine And.intro ?_ ?_ | exact Or.inl ⟨rfl, rfl⟩ | exact rfl)
              all_goals (conv => whnf)
              · rename_i hr
                have hr := decT hr
                refine KI.i64 (Lib.index (b.drop (i + 1)) s + ((i + 1 : Nat) : Int)) rfl (by omega) ?_
                conv => whnf
                rw [hdr, if_neg (by rw [beq_iff_eq]; omega)]
              · rename_i hr
                have hr := decF hr
                have hge := Lib.index_ge (b.drop (i + 1)) s
                rw [hdr, if_pos (by rw [beq_iff_eq]; omega)]
            · exact NextG.to (i + 1, fails + 1) ⟨hmiss, by simp only; omega, by simp only; omega⟩ (by simp only; omega) ⟨⟨rfl, rfl, rfl, rfl, rfl, rfl, rfl, rfl, rfl, trivial⟩, trivial⟩
        · rename_i hc1
          have hmiss : Lib.NoOcc b s (i + 1) := hno.succ (by
            cases ho : Lib.occAt b s (i) with
            | false => rfl
            | true =>
              exfalso
              have hx := Lib.occAt_second hs2 ho
              rw [List.getElem?_eq_getElem (by omega)] at hx
              injection hx with hx
              have hc1 := decF hc1
              rw [hx] at hc1
              exact hc1 rfl)
          refine KI.i64 ((fails + 1 : Nat) : Int) (by simp) (by omega) ?_
          conv => whnf
          refine KI.i64 ((i + 1 : Nat) : Int) (by simp) (by omega) ?_
          conv => whnf
          refine call0 (bytealgCutover (n := i + 1) (by omega)) ?_
          repeat' ((conv => whnf); first | exact trivial | refine aB rfl ?_ | refine sY rfl ?_ | refine sN rfl ?_ | refine sM (fun _ => ?_) (fun _ => ?_) | refine cK (by kernel_rfl) ?_ | refine And.intro ?_ ?_ | exact Or.inl ⟨rfl, rfl⟩ | exact rfl)
          all_goals (conv => whnf)
          · refine BndG.to (i + 1) rfl ?_
            conv => whnf
            refine CutL.by (b.drop (i + 1)) (by rw [byD_length]; omega) (by rw [byD_length]; exact Nat.le_refl _) (by rw [byD_length, List.take_length]) ?_
            conv => whnf
            refine callE (eIndex (b.drop (i + 1)) s (by omega) hm (by simp; omega)) ?_
            have hdr := Lib.index_drop hmiss (by omega : i + 1 ≤ b.length)
            have hle := Lib.index_le (b.drop (i + 1)) s
            rw [List.length_drop] at hle
            repeat' ((conv => whnf); first | exact trivial | refine aB rfl ?_ | refine sY rfl ?_ | refine sN rfl ?_ | refine sM (fun _ => ?_) (fun _ => ?_) | refine cK (by kernel_rfl) ?_ | refine And.intro ?_ ?_ | exact Or.inl ⟨rfl, rfl⟩ | exact rfl)
            all_goals (conv => whnf)
            · rename_i hr
              have hr := decT hr
              refine KI.i64 (Lib.index (b.drop (i + 1)) s + ((i + 1 : Nat) : Int)) rfl (by omega) ?_
              conv => whnf
              rw [hdr, if_neg (by rw [beq_iff_eq]; omega)]
            · rename_i hr
              have hr := decF hr
              have hge := Lib.index_ge (b.drop (i + 1)) s
              rw [hdr, if_pos (by rw [beq_iff_eq]; omega)]
          · exact NextG.to (i + 1, fails + 1) ⟨hmiss, by simp only; omega, by simp only; omega⟩ (by simp only; omega) ⟨⟨rfl, rfl, rfl, rfl, rfl, rfl, rfl, rfl, rfl, trivial⟩, trivial⟩
    · rename_i hlt
      have hlt : ¬ (i : Int) < ((b.length - s.length + 1 : Nat) : Int) := decF hlt
      rw [Lib.index_past (by rw [hs2]; simp) hno (by omega)]
  · rename_i h0 h2 h3 h4 hm
    have h0 := decF h0
    have h2 := decF h2
    have h3 := decF h3
    have h4 := decF h4
    rw [byD_length] at h0 h2 h3 h4
    rw [byD_length] at h3 h4
    obtain ⟨c0, c1, tl, hs2⟩ : ∃ c0 c1 tl, s = c0 :: c1 :: tl := by
      match s, h0, h2 with
      | [], h0, _ => exact absurd rfl h0
      | [_], _, h2 => exact absurd rfl h2
      | c0 :: c1 :: tl, _, _ => exact ⟨c0, c1, tl, rfl⟩
    refine IdxG.by 0 c0 rfl (by rw [hs2]; rfl) ?_
    conv => whnf
    refine IdxG.by 1 c1 rfl (by rw [hs2]; rfl) ?_
    conv => whnf
    refine KI.i64 ((b.length : Int) - s.length) (by rw [byD_length, byD_length]) (by omega) ?_
    conv => whnf
    refine KI.i64 ((b.length - s.length + 1 : Nat) : Int) (by omega) (by omega) ?_
    conv => whnf
    refine LoopW.to (ι := Nat × Nat) (fun p => Lib.NoOcc b s p.1 ∧ p.1 ≤ b.length ∧ p.2 ≤ p.1) (fun p => b.length + 1 - p.1)
      (fun p => [(0, .list 1 (byD b)), (1, .list 1 (byD s)), (5, .v (.int .i64 s.length)), (13, .v (.int .u8 c0.toNat)), (14, .v (.int .u8 c1.toNat)), (15, .v (.int .i64 p.1)), (16, .v (.int .i64 p.2)), (17, .v (.int .i64 (b.length - s.length + 1 : Nat)))])
      (fun _ => []) [] (0, 0) ⟨Lib.NoOcc.zero b s, Nat.zero_le _, Nat.le_refl _⟩ ⟨⟨rfl, rfl, congrArg (fun k : Nat => D.v (.int .i64 (k : Int))) (byD_length s), rfl, rfl, rfl, rfl, rfl, trivial⟩, trivial⟩ ?_
    rintro ⟨i, fails⟩ ⟨hno, hi, hfl⟩
    simp only at hno hi hfl
    repeat' ((conv => whnf); first | exact trivial | refine aB rfl ?_ | refine sY rfl ?_ | refine sN rfl ?_ | refine sM (fun _ => ?_) (fun _ => ?_) | refine cK (by kernel_rfl) ?_ | refine And.intro ?_ ?_ | exact Or.inl ⟨rfl, rfl⟩ | exact rfl)
    all_goals (conv => whnf)
    · rename_i hlt
      have hlt : (i : Int) < ((b.length - s.length + 1 : Nat) : Int) := decT hlt
      have hsl : s.length = tl.length + 2 := by rw [hs2]; rfl
      refine IdxG.by i b[i] rfl (List.getElem?_eq_getElem (by omega)) ?_
      repeat' ((conv => whnf); first | exact trivial | refine aB rfl ?_ | refine sY rfl ?_ | refine sN rfl ?_ | refine sM (fun _ => ?_) (fun _ => ?_) | refine cK (by kernel_rfl) ?_ | refine And.intro ?_ ?_ | exact Or.inl ⟨rfl, rfl⟩ | exact rfl)
      all_goals (conv => whnf)
      · rename_i hc
        have hc : b[i]? ≠ some c0 := by
          rw [List.getElem?_eq_getElem (by omega)]
          intro e
          injection e with e
          have hc := decF (notT hc)
          rw [e] at hc
          exact hc rfl
        refine KI.i64 ((i + 1 : Nat) : Int) (by simp) (by omega) ?_
        conv => whnf
        refine BndG.to (i + 1) rfl ?_
        conv => whnf
        refine BndG.to (b.length - s.length + 1) rfl ?_
        conv => whnf
        refine CutL.by ((b.drop (i + 1)).take (b.length - s.length + 1 - (i + 1))) (by omega) (by omega) (by rw [List.drop_take]) ?_
        conv => whnf
        refine call0 (bytesIndexByte _ c0) ?_
        have hge := Lib.indexByte_ge ((b.drop (i + 1)).take (b.length - s.length + 1 - (i + 1))) c0
        repeat' ((conv => whnf); first | exact trivial | refine aB rfl ?_ | refine sY rfl ?_ | refine sN rfl ?_ | refine sM (fun _ => ?_) (fun _ => ?_) | refine cK (by kernel_rfl) ?_ | refine And.intro ?_ ?_ | exact Or.inl ⟨rfl, rfl⟩ | exact rfl)
        all_goals (conv => whnf)
        · rename_i ho
          have ho := decT ho
          rw [Lib.index_skip_none (t := b.length - s.length + 1) hs2 hno hc (by omega) (by omega)]
        · rename_i ho
          have ho := decF ho
          obtain ⟨o, ho2⟩ : ∃ o : Nat, Lib.indexByte ((b.drop (i + 1)).take (b.length - s.length + 1 - (i + 1))) c0 = (o : Int) := ⟨_, (Int.toNat_of_nonneg (by omega)).symm⟩
          obtain ⟨hno2, _, hjt⟩ := Lib.noOcc_skip hs2 hno hc ho2
          refine KI.i64 ((o + 1 : Nat) : Int) (by rw [ho2]; simp) (by omega) ?_
          conv => whnf
          refine KI.i64 ((i + o + 1 : Nat) : Int) (by simp; omega) (by omega) ?_
          conv => whnf
          refine KI.i64 ((i + o + 1 + 1 : Nat) : Int) (by simp) (by omega) ?_
          conv => whnf
          refine IdxG.by (i + o + 1 + 1) b[i + o + 1 + 1] rfl (List.getElem?_eq_getElem (by omega)) ?_
          repeat' ((conv => whnf); first | exact trivial | refine aB rfl ?_ | refine sY rfl ?_ | refine sN rfl ?_ | refine sM (fun _ => ?_) (fun _ => ?_) | refine cK (by kernel_rfl) ?_ | refine And.intro ?_ ?_ | exact Or.inl ⟨rfl, rfl⟩ | exact rfl)
          all_goals (conv => whnf)
          · rename_i hc1
            refine KI.i64 ((i + o + 1 + s.length : Nat) : Int) (by simp) (by omega) ?_
            conv => whnf
            refine BndG.to (i + o + 1) rfl ?_
            conv => whnf
            refine BndG.to (i + o + 1 + s.length) rfl ?_
            conv => whnf
            refine CutL.by ((b.take (i + o + 1 + s.length)).drop (i + o + 1)) (by omega) (by omega) rfl ?_
            conv => whnf
            refine call0 (bytesEqual _ _) ?_
            repeat' ((conv => whnf); first | exact trivial | refine aB rfl ?_ | refine sY rfl ?_ | refine sN rfl ?_ | refine sM (fun _ => ?_) (fun _ => ?_) | refine cK (by kernel_rfl) ?_ | refine And.intro ?_ ?_ | exact Or.inl ⟨rfl, rfl⟩ | exact rfl)
            all_goals (conv => whnf)
            · rename_i he
              have he := decT he
              rw [Lib.index_hit hno2 (by omega) ((occ_piece (by omega)).2 he)]
            · rename_i he
              have he := decF he
              have hmiss : Lib.NoOcc b s (i + o + 1 + 1) := hno2.succ (by
                cases ho : Lib.occAt b s (i + o + 1) with
                | false => rfl
                | true => exact absurd ((occ_piece (by omega)).1 ho) he)
              refine KI.i64 ((i + o + 1 + 1 : Nat) : Int) (by simp) (by omega) ?_
              conv => whnf
              refine KI.i64 ((fails + 1 : Nat) : Int) (by simp) (by omega) ?_
              conv => whnf
              refine And.intro (by decide) ?_
              refine KI.to (((i + o + 1 + 1) / 16 : Nat) : Int) (by show Int.fdiv _ 16 = _; rw [Int.fdiv_eq_ediv_of_nonneg _ (by decide)]; omega) ?_
              conv => whnf
              refine KI.i64 ((4 + (i + o + 1 + 1) / 16 : Nat) : Int) (by simp) (by omega) ?_
              repeat' ((conv => whnf); first | exact trivial | refine aB rfl ?_ | refine sY rfl ?_ | refine sN rfl ?_ | refine sM (fun _ => ?_) (fun _ => ?_) | refine cK (by kernel_rfl) ?_ | refine And.intro ?_ ?_ | exact Or.inl ⟨rfl, rfl⟩ | exact rfl)
              all_goals (conv => whnf)
              · rename_i hr1 hr2
                have hr2 := decT (p := (((i + o + 1 + 1 : Nat) : Int) < ((b.length - s.length + 1 : Nat) : Int))) hr2
                refine BndG.to (i + o + 1 + 1) rfl ?_
                conv => whnf
                refine CutL.by (b.drop (i + o + 1 + 1)) (by rw [byD_length]; omega) (by rw [byD_length]; exact Nat.le_refl _) (by rw [byD_length, List.take_length]) ?_
                conv => whnf
                refine call0 (bytealgRabinKarp (b.drop (i + o + 1 + 1)) s (by omega) (by rw [List.length_drop]; omega) (by rw [List.length_drop]; omega)) ?_
                have hdr := Lib.index_drop hmiss (by omega : i + o + 1 + 1 ≤ b.length)
                have hle := Lib.index_le (b.drop (i + o + 1 + 1)) s
                rw [List.length_drop] at hle
                have hge := Lib.index_ge (b.drop (i + o + 1 + 1)) s
                repeat' ((conv => whnf); first | exact trivial | refine aB rfl ?_ | refine sY rfl ?_ | refine sN rfl ?_ | refine sM (fun _ => ?_) (fun _ => ?_) | refine cK (by kernel_rfl) ?_ | refine And.intro ?_ ?_ | exact Or.inl ⟨rfl, rfl⟩ | exact rfl)
                all_goals (conv => whnf)
                · rename_i hr
                  have hr := decT hr
                  rw [hdr, if_pos (by rw [beq_iff_eq]; omega)]
                · rename_i hr
                  have hr := decF hr
                  refine KI.i64 (Lib.index (b.drop (i + o + 1 + 1)) s + ((i + o + 1 + 1 : Nat) : Int)) (Int.add_comm _ _) (by omega) ?_
                  conv => whnf
                  rw [hdr, if_neg (by rw [beq_iff_eq]; omega)]
              · exact NextG.to (i + o + 1 + 1, fails + 1) ⟨hmiss, by simp only; omega, by simp only; omega⟩ (by simp only; omega) ⟨⟨rfl, rfl, rfl, rfl, rfl, rfl, rfl, rfl, trivial⟩, trivial⟩
              · exact NextG.to (i + o + 1 + 1, fails + 1) ⟨hmiss, by simp only; omega, by simp only; omega⟩ (by simp only; omega) ⟨⟨rfl, rfl, rfl, rfl, rfl, rfl, rfl, rfl, trivial⟩, trivial⟩
          · rename_i hc1
            have hmiss : Lib.NoOcc b s (i + o + 1 + 1) := hno2.succ (by
              cases ho : Lib.occAt b s (i + o + 1) with
              | false => rfl
              | true =>
                exfalso
                have hx := Lib.occAt_second hs2 ho
                rw [List.getElem?_eq_getElem (by omega)] at hx
                injection hx with hx
                have hc1 := decF hc1
                rw [hx] at hc1
                exact hc1 rfl)
            refine KI.i64 ((i + o + 1 + 1 : Nat) : Int) (by simp) (by omega) ?_
            conv => whnf
            refine KI.i64 ((fails + 1 : Nat) : Int) (by simp) (by omega) ?_
            conv => whnf
            refine And.intro (by decide) ?_
            refine KI.to (((i + o + 1 + 1) / 16 : Nat) : Int) (by show Int.fdiv _ 16 = _; rw [Int.fdiv_eq_ediv_of_nonneg _ (by decide)]; omega) ?_
            conv => whnf
            refine KI.i64 ((4 + (i + o + 1 + 1) / 16 : Nat) : Int) (by simp) (by omega) ?_
            repeat' ((conv => whnf); first | exact trivial | refine aB rfl ?_ | refine sY rfl ?_ | refine sN rfl ?_ | refine sM (fun _ => ?_) (fun _ => ?_) | refine cK (by kernel_rfl) ?_ | refine And.intro ?_ ?_ | exact Or.inl ⟨rfl, rfl⟩ | exact rfl)
            all_goals (conv => whnf)
            · rename_i hr1 hr2
              have hr2 := decT (p := (((i + o + 1 + 1 : Nat) : Int) < ((b.length - s.length + 1 : Nat) : Int))) hr2
              refine BndG.to (i + o + 1 + 1) rfl ?_
              conv => whnf
              refine CutL.by (b.drop (i + o + 1 + 1)) (by rw [byD_length]; omega) (by rw [byD_length]; exact Nat.le_refl _) (by rw [byD_length, List.take_length]) ?_
              conv => whnf
              refine call0 (bytealgRabinKarp (b.drop (i + o + 1 + 1)) s (by omega) (by rw [List.length_drop]; omega) (by rw [List.length_drop]; omega)) ?_
              have hdr := Lib.index_drop hmiss (by omega : i + o + 1 + 1 ≤ b.length)
              have hle := Lib.index_le (b.drop (i + o + 1 + 1)) s
              rw [List.length_drop] at hle
              have hge := Lib.index_ge (b.drop (i + o + 1 + 1)) s
              repeat' ((conv => whnf); first | exact trivial | refine aB rfl ?_ | refine sY rfl ?_ | refine sN rfl ?_ | refine sM (fun _ => ?_) (fun _ => ?_) | refine cK (by kernel_rfl) ?_ | refine And.intro ?_ ?_ | exact Or.inl ⟨rfl, rfl⟩ | exact rfl)
              all_goals (conv => whnf)
              · rename_i hr
                have hr := decT hr
                rw [hdr, if_pos (by rw [beq_iff_eq]; omega)]
              · rename_i hr
                have hr := decF hr
                refine KI.i64 (Lib.index (b.drop (i + o + 1 + 1)) s + ((i + o + 1 + 1 : Nat) : Int)) (Int.add_comm _ _) (by omega) ?_
                conv => whnf
                rw [hdr, if_neg (by rw [beq_iff_eq]; omega)]
            · exact NextG.to (i + o + 1 + 1, fails + 1) ⟨hmiss, by simp only; omega, by simp only; omega⟩ (by simp only; omega) ⟨⟨rfl, rfl, rfl, rfl, rfl, rfl, rfl, rfl, trivial⟩, trivial⟩
            · exact NextG.to (i + o + 1 + 1, fails + 1) ⟨hmiss, by simp only; omega, by simp only; omega⟩ (by simp only; omega) ⟨⟨rfl, rfl, rfl, rfl, rfl, rfl, rfl, rfl, trivial⟩, trivial⟩
      · rename_i hc
        refine KI.i64 ((i + 1 : Nat) : Int) (by simp) (by omega) ?_
        conv => whnf
        refine IdxG.by (i + 1) b[i + 1] rfl (List.getElem?_eq_getElem (by omega)) ?_
        repeat' ((conv => whnf); first | exact trivial | refine aB rfl ?_ | refine sY rfl ?_ | refine sN rfl ?_ | refine sM (fun _ => ?_) (fun _ => ?_) | refine cK (by kernel_rfl) ?_ | refine And.intro ?_ ?_ | exact Or.inl ⟨rfl, rfl⟩ | exact rfl)
        all_goals (conv => whnf)
        · rename_i hc1
          refine KI.i64 ((i + s.length : Nat) : Int) (by simp) (by omega) ?_
          conv => whnf
          refine BndG.to (i) rfl ?_
          conv => whnf
          refine BndG.to (i + s.length) rfl ?_
          conv => whnf
          refine CutL.by ((b.take (i + s.length)).drop (i)) (by omega) (by omega) rfl ?_
          conv => whnf
          refine call0 (bytesEqual _ _) ?_
          repeat' ((conv => whnf); first | exact trivial | refine aB rfl ?_ | refine sY rfl ?_ | refine sN rfl ?_ | refine sM (fun _ => ?_) (fun _ => ?_) | refine cK (by kernel_rfl) ?_ | refine And.intro ?_ ?_ | exact Or.inl ⟨rfl, rfl⟩ | exact rfl)
          all_goals (conv => whnf)
          · rename_i he
            have he := decT he
            rw [Lib.index_hit hno (by omega) ((occ_piece (by omega)).2 he)]
          · rename_i he
            have he := decF he
            have hmiss : Lib.NoOcc b s (i + 1) := hno.succ (by
              cases ho : Lib.occAt b s (i) with
              | false => rfl
              | true => exact absurd ((occ_piece (by omega)).1 ho) he)
            refine KI.i64 ((i + 1 : Nat) : Int) (by simp) (by omega) ?_
            conv => whnf
            refine KI.i64 ((fails + 1 : Nat) : Int) (by simp) (by omega) ?_
            conv => whnf
            refine And.intro (by decide) ?_
            refine KI.to (((i + 1) / 16 : Nat) : Int) (by show Int.fdiv _ 16 = _; rw [Int.fdiv_eq_ediv_of_nonneg _ (by decide)]; omega) ?_
            conv => whnf
            refine KI.i64 ((4 + (i + 1) / 16 : Nat) : Int) (by simp) (by omega) ?_
            repeat' ((conv => whnf); first | exact trivial | refine aB rfl ?_ | refine sY rfl ?_ | refine sN rfl ?_ | refine sM (fun _ => ?_) (fun _ => ?_) | refine cK (by kernel_rfl) ?_ | refine And.intro ?_ ?_ | exact Or.inl ⟨rfl, rfl⟩ | exact rfl)
            all_goals (conv => whnf)
            · rename_i hr1 hr2
              have hr2 := decT (p := (((i + 1 : Nat) : Int) < ((b.length - s.length + 1 : Nat) : Int))) hr2
              refine BndG.to (i + 1) rfl ?_
              conv => whnf
              refine CutL.by (b.drop (i + 1)) (by rw [byD_length]; omega) (by rw [byD_length]; exact Nat.le_refl _) (by rw [byD_length, List.take_length]) ?_
              conv => whnf
              refine call0 (bytealgRabinKarp (b.drop (i + 1)) s (by omega) (by rw [List.length_drop]; omega) (by rw [List.length_drop]; omega)) ?_
              have hdr := Lib.index_drop hmiss (by omega : i + 1 ≤ b.length)
              have hle := Lib.index_le (b.drop (i + 1)) s
              rw [List.length_drop] at hle
              have hge := Lib.index_ge (b.drop (i + 1)) s
              repeat' ((conv => whnf); first | exact trivial | refine aB rfl ?_ | refine sY rfl ?_ | refine sN rfl ?_ | refine sM (fun _ => ?_) (fun _ => ?_) | refine cK (by kernel_rfl) ?_ | refine And.intro ?_ ?_ | exact Or.inl ⟨rfl, rfl⟩ | exact rfl)
              all_goals (conv => whnf)
              · rename_i hr
                have hr := decT hr
                rw [hdr, if_pos (by rw [beq_iff_eq]; omega)]
              · rename_i hr
                have hr := decF hr
                refine KI.i64 (Lib.index (b.drop (i + 1)) s + ((i + 1 : Nat) : Int)) (Int.add_comm _ _) (by omega) ?_
                conv => whnf
                rw [hdr, if_neg (by rw [beq_iff_eq]; omega)]
            · exact NextG.to (i + 1, fails + 1) ⟨hmiss, by simp only; omega, by simp only; omega⟩ (by simp only; omega) ⟨⟨rfl, rfl, rfl, rfl, rfl, rfl, rfl, rfl, trivial⟩, trivial⟩
            · exact NextG.to (i + 1, fails + 1) ⟨hmiss, by simp only; omega, by simp only; omega⟩ (by simp only; omega) ⟨⟨rfl, rfl, rfl, rfl, rfl, rfl, rfl, rfl, trivial⟩, trivial⟩
        · rename_i hc1
          have hmiss : Lib.NoOcc b s (i + 1) := hno.succ (by
            cases ho : Lib.occAt b s (i) with
            | false => rfl
            | true =>
              exfalso
              have hx := Lib.occAt_second hs2 ho
              rw [List.getElem?_eq_getElem (by omega)] at hx
              injection hx with hx
              have hc1 := decF hc1
              rw [hx] at hc1
              exact hc1 rfl)
          refine KI.i64 ((i + 1 : Nat) : Int) (by simp) (by omega) ?_
          conv => whnf
          refine KI.i64 ((fails + 1 : Nat) : Int) (by simp) (by omega) ?_
          conv => whnf
          refine And.intro (by decide) ?_
          refine KI.to (((i + 1) / 16 : Nat) : Int) (by show Int.fdiv _ 16 = _; rw [Int.fdiv_eq_ediv_of_nonneg _ (by decide)]; omega) ?_
          conv => whnf
          refine KI.i64 ((4 + (i + 1) / 16 : Nat) : Int) (by simp) (by omega) ?_
          repeat' ((conv => whnf); first | exact trivial | refine aB rfl ?_ | refine sY rfl ?_ | refine sN rfl ?_ | refine sM (fun _ => ?_) (fun _ => ?_) | refine cK (by kernel_rfl) ?_ | refine And.intro ?_ ?_ | exact Or.inl ⟨rfl, rfl⟩ | exact rfl)
          all_goals (conv => whnf)
          · rename_i hr1 hr2
            have hr2 := decT (p := (((i + 1 : Nat) : Int) < ((b.length - s.length + 1 : Nat) : Int))) hr2
            refine BndG.to (i + 1) rfl ?_
            conv => whnf
            refine CutL.by (b.drop (i + 1)) (by rw [byD_length]; omega) (by rw [byD_length]; exact Nat.le_refl _) (by rw [byD_length, List.take_length]) ?_
            conv => whnf
            refine call0 (bytealgRabinKarp (b.drop (i + 1)) s (by omega) (by rw [List.length_drop]; omega) (by rw [List.length_drop]; omega)) ?_
            have hdr := Lib.index_drop hmiss (by omega : i + 1 ≤ b.length)
            have hle := Lib.index_le (b.drop (i + 1)) s
            rw [List.length_drop] at hle
            have hge := Lib.index_ge (b.drop (i + 1)) s
            repeat' ((conv => whnf); first | exact trivial | refine aB rfl ?_ | refine sY rfl ?_ | refine sN rfl ?_ | refine sM (fun _ => ?_) (fun _ => ?_) | refine cK (by kernel_rfl) ?_ | refine And.intro ?_ ?_ | exact Or.inl ⟨rfl, rfl⟩ | exact rfl)
            all_goals (conv => whnf)
            · rename_i hr
              have hr := decT hr
              rw [hdr, if_pos (by rw [beq_iff_eq]; omega)]
            · rename_i hr
              have hr := decF hr
              refine KI.i64 (Lib.index (b.drop (i + 1)) s + ((i + 1 : Nat) : Int)) (Int.add_comm _ _) (by omega) ?_
              conv => whnf
              rw [hdr, if_neg (by rw [beq_iff_eq]; omega)]
          · exact NextG.to (i + 1, fails + 1) ⟨hmiss, by simp only; omega, by simp only; omega⟩ (by simp only; omega) ⟨⟨rfl, rfl, rfl, rfl, rfl, rfl, rfl, rfl, trivial⟩, trivial⟩
          · exact NextG.to (i + 1, fails + 1) ⟨hmiss, by simp only; omega, by simp only; omega⟩ (by simp only; omega) ⟨⟨rfl, rfl, rfl, rfl, rfl, rfl, rfl, rfl, trivial⟩, trivial⟩
    · rename_i hlt
      have hlt : ¬ (i : Int) < ((b.length - s.length + 1 : Nat) : Int) := decF hlt
      rw [Lib.index_past (by rw [hs2]; simp) hno (by omega)]
end Tryz
end Go.Dm
namespace Go.Dm
/-! ### lex: what is skipped -/
def throughS (b : List UInt8) (head : Nat) (s : List UInt8) : Nat := match decide (Lib.index (b.drop head) s < 0) with
  | true => 0
  | false => head + (Lib.index (b.drop head) s).toNat + s.length
def skippedS (b : List UInt8) : Nat × Bool := match b with
  | [] => (0, false)
  | c :: _ => match decide (Lib.indexByte [32, 9, 10, 13] c ≥ 0) with
    | true => (1, true)
    | false => match [47, 42].isPrefixOf b with
      | true => (throughS b 2 [42, 47], true)
      | false => match [47, 47].isPrefixOf b with
        | true => (lineS b, true)
        | false => match [37, 123].isPrefixOf b with
          | true => (throughS b 2 [37, 125], true)
          | false => match decide ((c.toNat : Int) = 60) with
            | true => (throughS (b.take (lineS b)) 1 [62], true)
            | false => match decide ((c.toNat : Int) = 123) with
              | true => (actionS b, true)
              | false => (0, false)
theorem lineS_le (b : List UInt8) : lineS b ≤ b.length := by
  unfold lineS
  split
  · rename_i h
    have h := decT h
    have hx : Lib.indexByte b 10 = (((Lib.indexByte b 10).toNat : Nat) : Int) := (Int.toNat_of_nonneg h).symm
    have := (Lib.indexByte_some hx).1
    have := (List.getElem?_eq_some_iff.1 this).1
    omega
  · exact Nat.le_refl _
theorem lineS_pos {c : UInt8} {r : List UInt8} (h : c ≠ 10) : 1 ≤ lineS (c :: r) := by
  unfold lineS
  split
  · rename_i h2
    have h2 := decT h2
    have hx : Lib.indexByte (c :: r) 10 = (((Lib.indexByte (c :: r) 10).toNat : Nat) : Int) := (Int.toNat_of_nonneg h2).symm
    have h3 := (Lib.indexByte_some hx).1
    rcases Nat.eq_zero_or_pos (Lib.indexByte (c :: r) 10).toNat with h4 | h4
    · rw [h4] at h3
      simp at h3
      exact absurd h3 h
    · exact h4
  · simp
def boolD (p : Nat × Bool) : D := .tup [.v (.int .i64 p.1), .v (.bool p.2)]
namespace Tryz
open Go.Proofs
theorem lexThrough (b : List UInt8) (head : Nat) (s : List UInt8) (hh : head ≤ b.length) (h1 : 1 ≤ s.length) (hb : b.length < 4294967281) (hs : s.length < 4294967281) :
    PCall Tryz.prog 113 [] [.list 1 (byD b), .v (.int .i64 head), .v (str s)] (.ret (.v (.int .i64 (throughS b head s))) []) := by
  refine pcall_of (news := []) cxOK Tryz.func113 rfl Tryz.ntmps113 rfl rfl rfl (by decide) ?_
  conv => whnf
  refine BndG.to head rfl ?_
  conv => whnf
  refine CutL.by (b.drop head) (by rw [byD_length]; exact hh) (by rw [byD_length]; exact Nat.le_refl _) (by rw [byD_length, List.take_length]) ?_
  conv => whnf
  refine call0 (bytesIndex (b.drop head) s h1 (by simp; omega)) ?_
  have hle := Lib.index_le (b.drop head) s
  rw [List.length_drop] at hle
  repeat' ((conv => whnf); first | exact trivial | refine aB rfl ?_ | refine sY rfl ?_ | refine sN rfl ?_ | refine sM (fun _ => ?_) (fun _ => ?_) | refine cK (by kernel_rfl) ?_ | refine And.intro ?_ ?_ | exact Or.inl ⟨rfl, rfl⟩ | exact rfl)
  all_goals (conv => whnf)
  · rename_i h
    have h : decide (Lib.index (b.drop head) s < 0) = true := h
    simp only [throughS, h]; rfl
  · rename_i h
    have h : decide (Lib.index (b.drop head) s < 0) = false := h
    have h' := decF h
    refine KI.i64 ((head + (Lib.index (b.drop head) s).toNat : Nat) : Int) (by omega) (by omega) ?_
    conv => whnf
    refine KI.i64 ((head + (Lib.index (b.drop head) s).toNat + s.length : Nat) : Int) (by simp; rfl) (by omega) ?_
    conv => whnf
    simp only [throughS, h]
theorem lexSkipped (c : UInt8) (r : List UInt8) (hb : (c :: r).length < 4294967281) : PCall Tryz.prog 89 [] [.list 1 (byD (c :: r))] (.ret (boolD (skippedS (c :: r))) []) := by
  refine pcall_of (news := [5, 14, 21, 28]) cxOK Tryz.func89 rfl Tryz.ntmps89 rfl rfl rfl (by decide) ?_
  repeat' ((conv => whnf); first | exact trivial | refine aB rfl ?_ | refine sY rfl ?_ | refine sN rfl ?_ | refine sM (fun _ => ?_) (fun _ => ?_) | refine cK (by kernel_rfl) ?_ | refine And.intro ?_ ?_ | exact Or.inl ⟨rfl, rfl⟩ | exact rfl)
  all_goals (conv => whnf)
  refine IdxG.by 0 c rfl rfl ?_
  conv => whnf
  refine call0 (bytesIndexByte [32, 9, 10, 13] c) ?_
  repeat' ((conv => whnf); first | exact trivial | refine aB rfl ?_ | refine sY rfl ?_ | refine sN rfl ?_ | refine sM (fun _ => ?_) (fun _ => ?_) | refine cK (by kernel_rfl) ?_ | refine And.intro ?_ ?_ | exact Or.inl ⟨rfl, rfl⟩ | exact rfl)
  all_goals (conv => whnf)
  · rename_i h; simp only [skippedS, h]; rfl
  · rename_i h; simp only [skippedS, h]
  rename_i h0
  refine call0 (bytesHasPrefix (c :: r) [47, 42]) ?_
  repeat' ((conv => whnf); first | exact trivial | refine aB rfl ?_ | refine sY rfl ?_ | refine sN rfl ?_ | refine sM (fun _ => ?_) (fun _ => ?_) | refine cK (by kernel_rfl) ?_ | refine And.intro ?_ ?_ | exact Or.inl ⟨rfl, rfl⟩ | exact rfl)
  all_goals (conv => whnf)
  · rename_i h1
    have h1 : [47, 42].isPrefixOf (c :: r) = true := h1
    have hl : 2 ≤ (c :: r).length := by have := (List.isPrefixOf_iff_prefix.1 h1).length_le; simpa using this
    refine call0 (lexThrough (c :: r) 2 [42, 47] hl (by decide) hb (by decide)) ?_
    repeat' ((conv => whnf); first | exact trivial | refine aB rfl ?_ | refine sY rfl ?_ | refine sN rfl ?_ | refine sM (fun _ => ?_) (fun _ => ?_) | refine cK (by kernel_rfl) ?_ | refine And.intro ?_ ?_ | exact Or.inl ⟨rfl, rfl⟩ | exact rfl)
    all_goals (conv => whnf)
    · simp only [skippedS, h0, h1]
    · simp only [skippedS, h0, h1]
  rename_i h1
  have h1 : [47, 42].isPrefixOf (c :: r) = false := h1
  refine call0 (bytesHasPrefix (c :: r) [47, 47]) ?_
  repeat' ((conv => whnf); first | exact trivial | refine aB rfl ?_ | refine sY rfl ?_ | refine sN rfl ?_ | refine sM (fun _ => ?_) (fun _ => ?_) | refine cK (by kernel_rfl) ?_ | refine And.intro ?_ ?_ | exact Or.inl ⟨rfl, rfl⟩ | exact rfl)
  all_goals (conv => whnf)
  · rename_i h2
    have h2 : [47, 47].isPrefixOf (c :: r) = true := h2
    refine call0 (lexLine (c :: r)) ?_
    repeat' ((conv => whnf); first | exact trivial | refine aB rfl ?_ | refine sY rfl ?_ | refine sN rfl ?_ | refine sM (fun _ => ?_) (fun _ => ?_) | refine cK (by kernel_rfl) ?_ | refine And.intro ?_ ?_ | exact Or.inl ⟨rfl, rfl⟩ | exact rfl)
    all_goals (conv => whnf)
    · simp only [skippedS, h0, h1, h2]
    · simp only [skippedS, h0, h1, h2]
  rename_i h2
  have h2 : [47, 47].isPrefixOf (c :: r) = false := h2
  refine call0 (bytesHasPrefix (c :: r) [37, 123]) ?_
  repeat' ((conv => whnf); first | exact trivial | refine aB rfl ?_ | refine sY rfl ?_ | refine sN rfl ?_ | refine sM (fun _ => ?_) (fun _ => ?_) | refine cK (by kernel_rfl) ?_ | refine And.intro ?_ ?_ | exact Or.inl ⟨rfl, rfl⟩ | exact rfl)
  all_goals (conv => whnf)
  · rename_i h3
    have h3 : [37, 123].isPrefixOf (c :: r) = true := h3
    have hl : 2 ≤ (c :: r).length := by have := (List.isPrefixOf_iff_prefix.1 h3).length_le; simpa using this
    refine call0 (lexThrough (c :: r) 2 [37, 125] hl (by decide) hb (by decide)) ?_
    repeat' ((conv => whnf); first | exact trivial | refine aB rfl ?_ | refine sY rfl ?_ | refine sN rfl ?_ | refine sM (fun _ => ?_) (fun _ => ?_) | refine cK (by kernel_rfl) ?_ | refine And.intro ?_ ?_ | exact Or.inl ⟨rfl, rfl⟩ | exact rfl)
    all_goals (conv => whnf)
    · simp only [skippedS, h0, h1, h2, h3]
    · simp only [skippedS, h0, h1, h2, h3]
  rename_i h3
  have h3 : [37, 123].isPrefixOf (c :: r) = false := h3
  refine IdxG.by 0 c rfl rfl ?_
  repeat' ((conv => whnf); first | exact trivial | refine aB rfl ?_ | refine sY rfl ?_ | refine sN rfl ?_ | refine sM (fun _ => ?_) (fun _ => ?_) | refine cK (by kernel_rfl) ?_ | refine And.intro ?_ ?_ | exact Or.inl ⟨rfl, rfl⟩ | exact rfl)
  all_goals (conv => whnf)
  · rename_i h4
    have h4 : decide ((c.toNat : Int) = 60) = true := h4
    refine call0 (lexLine (c :: r)) ?_
    have hpos : 1 ≤ lineS (c :: r) := lineS_pos (by intro e; subst e; exact absurd (decT h4) (by decide))
    have hle := lineS_le (c :: r)
    repeat' ((conv => whnf); first | exact trivial | refine aB rfl ?_ | refine sY rfl ?_ | refine sN rfl ?_ | refine sM (fun _ => ?_) (fun _ => ?_) | refine cK (by kernel_rfl) ?_ | refine And.intro ?_ ?_ | exact Or.inl ⟨rfl, rfl⟩ | exact rfl)
    all_goals (conv => whnf)
    refine BndG.to (lineS (c :: r)) rfl ?_
    conv => whnf
    refine CutL.by ((c :: r).take (lineS (c :: r))) (Nat.zero_le _) hle rfl ?_
    conv => whnf
    refine call0 (lexThrough ((c :: r).take (lineS (c :: r))) 1 [62] (by rw [List.length_take]; omega) (by decide) (by rw [List.length_take]; omega) (by decide)) ?_
    repeat' ((conv => whnf); first | exact trivial | refine aB rfl ?_ | refine sY rfl ?_ | refine sN rfl ?_ | refine sM (fun _ => ?_) (fun _ => ?_) | refine cK (by kernel_rfl) ?_ | refine And.intro ?_ ?_ | exact Or.inl ⟨rfl, rfl⟩ | exact rfl)
    all_goals (conv => whnf)
    · simp only [skippedS, h0, h1, h2, h3, h4]
    · simp only [skippedS, h0, h1, h2, h3, h4]
  rename_i h4
  have h4 : decide ((c.toNat : Int) = 60) = false := h4
  refine IdxG.by 0 c rfl rfl ?_
  repeat' ((conv => whnf); first | exact trivial | refine aB rfl ?_ | refine sY rfl ?_ | refine sN rfl ?_ | refine sM (fun _ => ?_) (fun _ => ?_) | refine cK (by kernel_rfl) ?_ | refine And.intro ?_ ?_ | exact Or.inl ⟨rfl, rfl⟩ | exact rfl)
  all_goals (conv => whnf)
  · rename_i h5
    have h5 : decide ((c.toNat : Int) = 123) = true := h5
    refine call0 (lexAction (c :: r) (by omega)) ?_
    repeat' ((conv => whnf); first | exact trivial | refine aB rfl ?_ | refine sY rfl ?_ | refine sN rfl ?_ | refine sM (fun _ => ?_) (fun _ => ?_) | refine cK (by kernel_rfl) ?_ | refine And.intro ?_ ?_ | exact Or.inl ⟨rfl, rfl⟩ | exact rfl)
    all_goals (conv => whnf)
    · simp only [skippedS, h0, h1, h2, h3, h4, h5]
    · simp only [skippedS, h0, h1, h2, h3, h4, h5]
  · rename_i h5
    have h5 : decide ((c.toNat : Int) = 123) = false := h5
    simp only [skippedS, h0, h1, h2, h3, h4, h5]; rfl
  · rename_i h5
    have h5 : decide ((c.toNat : Int) = 123) = false := h5
    simp only [skippedS, h0, h1, h2, h3, h4, h5]
end Tryz
end Go.Dm
namespace Go.Dm
/-! ### lex: one token -/
structure Tok where
  kind : Nat
  text : List UInt8
  n : Nat
  e : Nat
def tokEnd (b : List UInt8) (n : Nat) : Tok := match decide (wordS (b.take n) = 0) with
  | true => ⟨0, [], n, 3⟩
  | false => ⟨wordS (b.take n), [], n, 0⟩
def innerU (c : UInt8) : Bool := innerS c.toNat
def smallU (c : UInt8) : Bool := smallS c.toNat
def tokenS (b : List UInt8) : Tok := match b with
  | [] => ⟨0, [], 0, 0⟩
  | c :: _ => match letterS c.toNat with
    | true => match decide (runS innerU b > 20) with
      | true => ⟨0, [], runS innerU b, 5⟩
      | false => ⟨1, b.take (runS innerU b), runS innerU b, 0⟩
    | false => match decide ((c.toNat : Int) = 39) with
      | true => match decide ((literalS b).2 = 0) with
        | false => ⟨0, [], (literalS b).1, (literalS b).2⟩
        | true => ⟨2, b.take (literalS b).1, (literalS b).1, 0⟩
      | false => match [37, 37].isPrefixOf b with
        | true => tokEnd b 2
        | false => match decide ((c.toNat : Int) = 37) with
          | true => tokEnd b (runS smallU b)
          | false => tokEnd b 1
def tokCells (k : Nat) (t : List UInt8) (at' : Value) : List D := [.v (.int .i64 k), .v (str t), .v at']
def noPl : Value := .complex .f64 0 0
def tokD (t : Tok) : D := .tup [.agg (tokCells t.kind t.text noPl), .v (.int .i64 t.n), .v (.int .i64 t.e)]
theorem spanS_le (p : UInt8 → Bool) : ∀ b : List UInt8, spanS p b ≤ b.length
  | [] => Nat.le_refl _
  | c :: r => by
    have := spanS_le p r
    simp only [spanS]
    split <;> simp <;> omega
theorem runS_le (p : UInt8 → Bool) {b : List UInt8} (h : b ≠ []) : runS p b ≤ b.length := by
  cases b with
  | nil => exact absurd rfl h
  | cons c r => have := spanS_le p r; simp only [runS, List.length_cons]; omega
theorem litEnd_le {b : List UInt8} {n : Nat} (h : (litEnd b n).2 = 0) : (litEnd b n).1 ≤ b.length := by
  unfold litEnd at h ⊢
  split at h
  · simp at h
  · rename_i c hc
    have := (List.getElem?_eq_some_iff.1 hc).1
    split at h
    · rename_i hd; simp only [hc, hd]; omega
    · simp at h
theorem literalS_le {b : List UInt8} (h : (literalS b).2 = 0) : (literalS b).1 ≤ b.length := by
  unfold literalS at h ⊢
  split
  · split
    · rename_i hp; simp only [hp] at h; exact litEnd_le h
    · rename_i hp
      simp only [hp] at h
      split
      · simp
      · rename_i hc
        simp only [hc] at h
        split
        · simp
        · split
          · simp
          · rename_i he; simp only [he] at h; exact litEnd_le h
  · simp
namespace Tryz
open Go.Proofs
set_option maxHeartbeats 20000000 in
theorem lexToken (c : UInt8) (r : List UInt8) (hb : (c :: r).length < 4294967281) : PCall Tryz.prog 91 [] [.list 1 (byD (c :: r))] (.ret (tokD (tokenS (c :: r))) []) := by
  generalize hT : tokenS (c :: r) = T
  refine pcall_of (news := [2, 45]) cxOK Tryz.func91 rfl Tryz.ntmps91 rfl rfl rfl (by decide) ?_
  repeat' ((conv => whnf); first | refine aB rfl ?_ | refine sY rfl ?_ | refine sN rfl ?_ | refine sM (fun _ => ?_) (fun _ => ?_))
  all_goals (conv => whnf)
  refine IdxG.by 0 c rfl rfl ?_
  conv => whnf
  refine call0 (lexLetter _) ?_
  repeat' ((conv => whnf); first | refine aB rfl ?_ | refine sY rfl ?_ | refine sN rfl ?_ | refine sM (fun _ => ?_) (fun _ => ?_))
  all_goals (conv => whnf)
  · rename_i h0
    refine call0 (lexRun (c :: r) 58 innerU (fun d => lexInner d.toNat) (by omega)) ?_
    repeat' ((conv => whnf); first | refine aB rfl ?_ | refine sY rfl ?_ | refine sN rfl ?_ | refine sM (fun _ => ?_) (fun _ => ?_))
    all_goals (conv => whnf)
    · rename_i h1
      have ht : tokenS (c :: r) = ⟨0, [], runS innerU (c :: r), 5⟩ := by simp only [tokenS, h0, show decide (runS innerU (c :: r) > 20) = true from decide_eq_true (by have := decT h1; omega)]
      obtain rfl : T = ⟨0, [], runS innerU (c :: r), 5⟩ := hT.symm.trans ht
      exact ⟨Or.inl ⟨rfl, rfl⟩, rfl, rfl, trivial⟩
    · rename_i h1
      have hle := runS_le innerU (b := c :: r) (by simp)
      have ht : tokenS (c :: r) = ⟨1, (c :: r).take (runS innerU (c :: r)), runS innerU (c :: r), 0⟩ := by simp only [tokenS, h0, show decide (runS innerU (c :: r) > 20) = false from decide_eq_false (by have := decF h1; omega)]
      obtain rfl : T = ⟨1, (c :: r).take (runS innerU (c :: r)), runS innerU (c :: r), 0⟩ := hT.symm.trans ht
      refine BndG.to (runS innerU (c :: r)) rfl ?_
      conv => whnf
      refine CutL.by ((c :: r).take (runS innerU (c :: r))) (Nat.zero_le _) hle rfl ?_
      conv => whnf
      refine StrG.by ?_
      repeat' ((conv => whnf); first | refine aB rfl ?_ | refine sY rfl ?_ | refine sN rfl ?_ | refine sM (fun _ => ?_) (fun _ => ?_))
      all_goals (conv => whnf)
      exact ⟨Or.inl ⟨rfl, rfl⟩, rfl, rfl, trivial⟩
  rename_i h0
  refine IdxG.by 0 c rfl rfl ?_
  repeat' ((conv => whnf); first | refine aB rfl ?_ | refine sY rfl ?_ | refine sN rfl ?_ | refine sM (fun _ => ?_) (fun _ => ?_))
  all_goals (conv => whnf)
  · rename_i h1
    have h1 : decide ((c.toNat : Int) = 39) = true := h1
    refine call0 (lexliteral (c :: r)) ?_
    repeat' ((conv => whnf); first | refine aB rfl ?_ | refine sY rfl ?_ | refine sN rfl ?_ | refine sM (fun _ => ?_) (fun _ => ?_))
    all_goals (conv => whnf)
    · rename_i h2
      have h2 := decF (notT h2)
      have ht : tokenS (c :: r) = ⟨0, [], (literalS (c :: r)).1, (literalS (c :: r)).2⟩ := by simp only [tokenS, h0, h1, show decide ((literalS (c :: r)).2 = 0) = false from decide_eq_false (by omega)]
      obtain rfl : T = ⟨0, [], (literalS (c :: r)).1, (literalS (c :: r)).2⟩ := hT.symm.trans ht
      exact ⟨Or.inl ⟨rfl, rfl⟩, rfl, rfl, trivial⟩
    · rename_i h2
      have h2 := decT (notF h2)
      have h3 : (literalS (c :: r)).2 = 0 := by omega
      have hle := literalS_le h3
      have ht : tokenS (c :: r) = ⟨2, (c :: r).take (literalS (c :: r)).1, (literalS (c :: r)).1, 0⟩ := by simp only [tokenS, h0, h1, show decide ((literalS (c :: r)).2 = 0) = true from decide_eq_true h3]
      obtain rfl : T = ⟨2, (c :: r).take (literalS (c :: r)).1, (literalS (c :: r)).1, 0⟩ := hT.symm.trans ht
      refine BndG.to (literalS (c :: r)).1 rfl ?_
      conv => whnf
      refine CutL.by ((c :: r).take (literalS (c :: r)).1) (Nat.zero_le _) hle rfl ?_
      conv => whnf
      refine StrG.by ?_
      repeat' ((conv => whnf); first | refine aB rfl ?_ | refine sY rfl ?_ | refine sN rfl ?_ | refine sM (fun _ => ?_) (fun _ => ?_))
      all_goals (conv => whnf)
      exact ⟨Or.inl ⟨rfl, rfl⟩, rfl, rfl, trivial⟩
  rename_i h1
  have h1 : decide ((c.toNat : Int) = 39) = false := h1
  refine call0 (bytesHasPrefix (c :: r) [37, 37]) ?_
  repeat' ((conv => whnf); first | refine aB rfl ?_ | refine sY rfl ?_ | refine sN rfl ?_ | refine sM (fun _ => ?_) (fun _ => ?_))
  all_goals (conv => whnf)
  · rename_i h2
    have h2 : [37, 37].isPrefixOf (c :: r) = true := h2
    have hl : 2 ≤ (c :: r).length := by have := (List.isPrefixOf_iff_prefix.1 h2).length_le; simpa using this
    have ht0 : tokenS (c :: r) = tokEnd (c :: r) 2 := by simp only [tokenS, h0, h1, h2]
    refine BndG.to (2) rfl ?_
    conv => whnf
    refine CutL.by ((c :: r).take (2)) (Nat.zero_le _) hl rfl ?_
    conv => whnf
    refine StrG.by ?_
    conv => whnf
    refine call0 (lexWord ((c :: r).take (2))) ?_
    repeat' ((conv => whnf); first | refine aB rfl ?_ | refine sY rfl ?_ | refine sN rfl ?_ | refine sM (fun _ => ?_) (fun _ => ?_))
    all_goals (conv => whnf)
    · rename_i hw
      have hw := decT hw
      have h9 : wordS ((c :: r).take (2)) = 0 := by omega
      have ht : tokenS (c :: r) = ⟨0, [], 2, 3⟩ := by simp only [ht0, tokEnd, decide_eq_true h9]
      obtain rfl : T = ⟨0, [], 2, 3⟩ := hT.symm.trans ht
      exact ⟨Or.inl ⟨congrArg (fun k : Nat => D.agg (tokCells k [] noPl)) h9, rfl⟩, rfl, rfl, trivial⟩
    · rename_i hw
      have hw := decF hw
      have h9 : ¬ wordS ((c :: r).take (2)) = 0 := by omega
      have ht : tokenS (c :: r) = ⟨wordS ((c :: r).take (2)), [], 2, 0⟩ := by simp only [ht0, tokEnd, decide_eq_false h9]
      obtain rfl : T = ⟨wordS ((c :: r).take (2)), [], 2, 0⟩ := hT.symm.trans ht
      exact ⟨Or.inl ⟨rfl, rfl⟩, rfl, rfl, trivial⟩
  rename_i h2
  have h2 : [37, 37].isPrefixOf (c :: r) = false := h2
  refine IdxG.by 0 c rfl rfl ?_
  repeat' ((conv => whnf); first | refine aB rfl ?_ | refine sY rfl ?_ | refine sN rfl ?_ | refine sM (fun _ => ?_) (fun _ => ?_))
  all_goals (conv => whnf)
  · rename_i h3
    have h3 : decide ((c.toNat : Int) = 37) = true := h3
    have hle := runS_le smallU (b := c :: r) (by simp)
    have ht0 : tokenS (c :: r) = tokEnd (c :: r) (runS smallU (c :: r)) := by simp only [tokenS, h0, h1, h2, h3]
    refine call0 (lexRun (c :: r) 118 smallU (fun d => lexSmall d.toNat) (by omega)) ?_
    conv => whnf
    refine BndG.to (runS smallU (c :: r)) rfl ?_
    conv => whnf
    refine CutL.by ((c :: r).take (runS smallU (c :: r))) (Nat.zero_le _) hle rfl ?_
    conv => whnf
    refine StrG.by ?_
    conv => whnf
    refine call0 (lexWord ((c :: r).take (runS smallU (c :: r)))) ?_
    repeat' ((conv => whnf); first | refine aB rfl ?_ | refine sY rfl ?_ | refine sN rfl ?_ | refine sM (fun _ => ?_) (fun _ => ?_))
    all_goals (conv => whnf)
    · rename_i hw
      have hw := decT hw
      have h9 : wordS ((c :: r).take (runS smallU (c :: r))) = 0 := by omega
      have ht : tokenS (c :: r) = ⟨0, [], runS smallU (c :: r), 3⟩ := by simp only [ht0, tokEnd, decide_eq_true h9]
      obtain rfl : T = ⟨0, [], runS smallU (c :: r), 3⟩ := hT.symm.trans ht
      exact ⟨Or.inl ⟨congrArg (fun k : Nat => D.agg (tokCells k [] noPl)) h9, rfl⟩, rfl, rfl, trivial⟩
    · rename_i hw
      have hw := decF hw
      have h9 : ¬ wordS ((c :: r).take (runS smallU (c :: r))) = 0 := by omega
      have ht : tokenS (c :: r) = ⟨wordS ((c :: r).take (runS smallU (c :: r))), [], runS smallU (c :: r), 0⟩ := by simp only [ht0, tokEnd, decide_eq_false h9]
      obtain rfl : T = ⟨wordS ((c :: r).take (runS smallU (c :: r))), [], runS smallU (c :: r), 0⟩ := hT.symm.trans ht
      exact ⟨Or.inl ⟨rfl, rfl⟩, rfl, rfl, trivial⟩
  · rename_i h3
    have h3 : decide ((c.toNat : Int) = 37) = false := h3
    have ht0 : tokenS (c :: r) = tokEnd (c :: r) 1 := by simp only [tokenS, h0, h1, h2, h3]
    refine BndG.to (1) rfl ?_
    conv => whnf
    refine CutL.by ((c :: r).take (1)) (Nat.zero_le _) (by simp) rfl ?_
    conv => whnf
    refine StrG.by ?_
    conv => whnf
    refine call0 (lexWord ((c :: r).take (1))) ?_
    repeat' ((conv => whnf); first | refine aB rfl ?_ | refine sY rfl ?_ | refine sN rfl ?_ | refine sM (fun _ => ?_) (fun _ => ?_))
    all_goals (conv => whnf)
    · rename_i hw
      have hw := decT hw
      have h9 : wordS ((c :: r).take (1)) = 0 := by omega
      have ht : tokenS (c :: r) = ⟨0, [], 1, 3⟩ := by simp only [ht0, tokEnd, decide_eq_true h9]
      obtain rfl : T = ⟨0, [], 1, 3⟩ := hT.symm.trans ht
      exact ⟨Or.inl ⟨congrArg (fun k : Nat => D.agg (tokCells k [] noPl)) h9, rfl⟩, rfl, rfl, trivial⟩
    · rename_i hw
      have hw := decF hw
      have h9 : ¬ wordS ((c :: r).take (1)) = 0 := by omega
      have ht : tokenS (c :: r) = ⟨wordS ((c :: r).take (1)), [], 1, 0⟩ := by simp only [ht0, tokEnd, decide_eq_false h9]
      obtain rfl : T = ⟨wordS ((c :: r).take (1)), [], 1, 0⟩ := hT.symm.trans ht
      exact ⟨Or.inl ⟨rfl, rfl⟩, rfl, rfl, trivial⟩
end Tryz
end Go.Dm
namespace Go.Dm
/-! ### lex: all tokens -/
/-- A token with its place. -/
structure TokP where
  kind : Nat
  text : List UInt8
  at' : Nat × Nat
def tokRow (t : TokP) : List D := tokCells t.kind t.text (pl t.at'.1 t.at'.2)
/-- From what is left, the place, the marks, what there is already: the tokens, the place, the error. -/
def tokensGo : Nat → List UInt8 → Nat × Nat → Nat → List TokP → Option (List TokP) × (Nat × Nat) × Nat
  | 0, _, p, _, acc => (some acc, p, 0)
  | fuel + 1, b, p, marks, acc => match b with
    | [] => (some acc, p, 0)
    | c :: r => match decide (marks = 2) with
      | true => (some acc, stepsS p (c :: r), 0)
      | false => match (skippedS (c :: r)).2 with
        | true => match decide ((skippedS (c :: r)).1 = 0) with
          | true => (none, p, 4)
          | false => tokensGo fuel ((c :: r).drop (skippedS (c :: r)).1) (stepsS p ((c :: r).take (skippedS (c :: r)).1)) marks acc
        | false => match decide ((tokenS (c :: r)).e = 0) with
          | false => (none, p, (tokenS (c :: r)).e)
          | true => tokensGo fuel ((c :: r).drop (tokenS (c :: r)).n) (stepsS p ((c :: r).take (tokenS (c :: r)).n)) (match decide ((tokenS (c :: r)).kind = 9) with | true => marks + 1 | false => marks) (acc ++ [⟨(tokenS (c :: r)).kind, (tokenS (c :: r)).text, p⟩])
theorem throughS_le {b : List UInt8} {h : Nat} {s : List UInt8} (hh : h ≤ b.length) : throughS b h s ≤ b.length := by
  unfold throughS
  split
  · omega
  · rename_i hx
    have hx := decF hx
    have := Lib.index_room (b.drop h) s (by omega)
    rw [List.length_drop] at this
    omega
theorem litEnd_pos {b : List UInt8} {n : Nat} (h : (litEnd b n).2 = 0) : 1 ≤ (litEnd b n).1 := by
  unfold litEnd at h ⊢
  split at h
  · simp at h
  · rename_i c hc
    split at h
    · rename_i hd; simp only [hc, hd]; omega
    · simp at h
theorem literalS_pos {b : List UInt8} (h : (literalS b).2 = 0) : 1 ≤ (literalS b).1 := by
  unfold literalS at h ⊢
  split
  · split
    · rename_i hp; simp only [hp] at h; exact litEnd_pos h
    · rename_i hp
      simp only [hp] at h
      split
      · rename_i hc; simp [hc] at h
      · rename_i hc
        simp only [hc] at h
        split
        · simp at h
        · split
          · rename_i he; simp [he] at h
          · rename_i he; simp only [he] at h; exact litEnd_pos h
  · rename_i hn
    split at h
    · rename_i a c r
      exact absurd rfl (hn a c r)
    · simp at h
theorem tokEnd_n (b : List UInt8) (n : Nat) : (tokEnd b n).n = n := by unfold tokEnd; split <;> rfl
theorem runS_pos (p : UInt8 → Bool) (b : List UInt8) : 1 ≤ runS p b := by cases b <;> simp [runS]
theorem tokenS_n {c : UInt8} {r : List UInt8} (h : (tokenS (c :: r)).e = 0) : 1 ≤ (tokenS (c :: r)).n ∧ (tokenS (c :: r)).n ≤ (c :: r).length := by
  have hr := fun p => runS_le p (b := c :: r) (by simp)
  have hp := fun p => runS_pos p (c :: r)
  unfold tokenS at h ⊢
  simp only at h ⊢
  split
  · split
    · exact ⟨hp _, hr _⟩
    · exact ⟨hp _, hr _⟩
  · rename_i h0
    simp only [h0] at h
    split
    · rename_i h1
      simp only [h1] at h
      split
      · rename_i h2
        simp only [h2] at h
        exact absurd h (decF h2)
      · rename_i h2
        have h2 := decT h2
        exact ⟨literalS_pos h2, literalS_le h2⟩
    · split
      · rename_i h2
        rw [tokEnd_n]
        have := (List.isPrefixOf_iff_prefix.1 h2).length_le
        simpa using this
      · split
        · rw [tokEnd_n]; exact ⟨hp _, hr _⟩
        · rw [tokEnd_n]; simp
theorem actGo_le (b : List UInt8) : ∀ (n i : Nat) (d : Int), actGo b n i d = 0 ∨ (i < actGo b n i d ∧ actGo b n i d ≤ b.length)
  | 0, _, _ => .inl rfl
  | n + 1, i, d => by
    unfold actGo
    split
    · exact .inl rfl
    · rename_i c hc
      have hi := (List.getElem?_eq_some_iff.1 hc).1
      have step : ∀ j d, i < j → actGo b n j d = 0 ∨ (i < actGo b n j d ∧ actGo b n j d ≤ b.length) := by
        intro j d hj
        rcases actGo_le b n j d with h | h
        · exact .inl h
        · exact .inr (by omega)
      split
      · split
        · exact step _ _ (by omega)
        · exact .inr (by omega)
      · split
        · split
          · exact step _ _ (by omega)
          · exact .inr (by omega)
        · split
          · split
            · exact .inl rfl
            · rename_i h0
              have h0 := decF h0
              exact step _ _ (by omega)
          · split
            · exact step _ _ (by omega)
            · exact .inr (by omega)
theorem actionS_le (b : List UInt8) : actionS b ≤ b.length := by
  rcases actGo_le b (b.length + 1) 0 0 with h | h <;> unfold actionS <;> omega
theorem skippedS_le (c : UInt8) (r : List UInt8) : (skippedS (c :: r)).1 ≤ (c :: r).length := by
  have pre : ∀ x y : UInt8, [x, y].isPrefixOf (c :: r) = true → 2 ≤ (c :: r).length := fun x y h => by
    have := (List.isPrefixOf_iff_prefix.1 h).length_le; simpa using this
  unfold skippedS
  simp only
  split
  · simp
  · split
    · rename_i h; exact throughS_le (pre _ _ h)
    · split
      · exact lineS_le _
      · split
        · rename_i h; exact throughS_le (pre _ _ h)
        · split
          · rename_i h
            have hpos : 1 ≤ lineS (c :: r) := lineS_pos (by intro e; subst e; exact absurd (decT h) (by decide))
            have h1 := lineS_le (c :: r)
            have h2 := throughS_le (b := (c :: r).take (lineS (c :: r))) (h := 1) (s := [62]) (by rw [List.length_take]; omega)
            rw [List.length_take] at h2
            omega
          · split
            · exact actionS_le (c :: r)
            · simp
end Go.Dm
namespace Go.Dm
/-! ### yacc: one token after the other -/
theorem ResS.row {ids : List Nat} {M : Mem} {id n s : Nat} {e : TypeId} {xs ys : List (List D)} (h : get M id = some (.row e s xs)) (hy : xs.take n = ys) : ResS ids M (.row id n) (.list s ys) := by
  subst hy
  exact .inr (.inl ⟨[(id, .row e s xs)], by simp only [purify, h]⟩)
theorem Adapts.nilL {M : Mem} {s : Nat} {ds ds0 : List D} {p : Mem} (h : Adapts M ds ds0 p) : Adapts M (.v (.slice none 0 0) :: ds) (.list s [] :: ds0) p :=
  ⟨h.1, fun E N w vs hi hN ⟨v, ws, h1, h2, h3⟩ => ⟨v, ws, h1, ⟨none, 0, h2, Nat.le_refl _, fun h => absurd rfl h⟩, h.2 E N w ws hi hN h3⟩⟩
/-! Data seen from outside -/
def PurTo (M : Mem) (c d : D) : Prop := ∃ p, purify M c = some (d, p)
def PurL (M : Mem) (cs ds : List D) : Prop := ∃ p, purifyL M cs = some (ds, p)
theorem PurL.nil {M : Mem} : PurL M [] [] := ⟨[], rfl⟩
theorem PurL.cons {M : Mem} {c d : D} {cs ds : List D} (h : PurTo M c d) (k : PurL M cs ds) : PurL M (c :: cs) (d :: ds) := by
  obtain ⟨p, h⟩ := h
  obtain ⟨q, k⟩ := k
  exact ⟨p ++ q, by simp only [purifyL, h, k]⟩
theorem PurTo.v {M : Mem} {x : Value} : PurTo M (.v x) (.v x) := ⟨[], rfl⟩
theorem PurTo.veq {M : Mem} {x y : Value} (h : x = y) : PurTo M (.v x) (.v y) := ⟨[], by rw [h]; rfl⟩
theorem PurTo.list {M : Mem} {s : Nat} {xs : List (List D)} : PurTo M (.list s xs) (.list s xs) := ⟨[], rfl⟩
theorem PurTo.leq {M : Mem} {s : Nat} {xs ys : List (List D)} (h : xs = ys) : PurTo M (.list s xs) (.list s ys) := ⟨[], by rw [h]; rfl⟩
theorem PurTo.row {M : Mem} {id n s : Nat} {e : TypeId} {xs ys : List (List D)} (h : get M id = some (.row e s xs)) (hy : xs.take n = ys) : PurTo M (.row id n) (.list s ys) := ⟨[(id, .row e s xs)], by subst hy; simp only [purify, h]⟩
theorem PurTo.agg {M : Mem} {cs ds : List D} (h : PurL M cs ds) : PurTo M (.agg cs) (.agg ds) := let ⟨p, h⟩ := h; ⟨p, by simp only [purify, h]⟩
theorem PurTo.tup {M : Mem} {cs ds : List D} (h : PurL M cs ds) : PurTo M (.tup cs) (.tup ds) := let ⟨p, h⟩ := h; ⟨p, by simp only [purify, h]⟩
theorem ResTo.pur {ids : List Nat} {M : Mem} {c d : D} (h : PurTo M c d) : ResTo ids M c d := .inr (.inl h)
theorem ResS.of {ids : List Nat} {M : Mem} {c d : D} (h : ResTo ids M c d) (hc : ∀ x, c ≠ .v x) : ResS ids M c d := by
  cases c with
  | v x => exact absurd rfl (hc x)
  | _ => exact h
theorem ResS.pur {ids : List Nat} {M : Mem} {c d : D} (h : PurTo M c d) (hc : ∀ x, c ≠ .v x) : ResS ids M c d := .of (.pur h) hc
theorem AppG.rows {e s n by' : Nat} {xs ys : List (List D)} {Z : Unit → Prop} {C : Nat → List (List D) → Prop} (n' : Nat) (xs' : List (List D)) (h1 : n = xs.length) (h2 : ∀ r ∈ ys, allOne r = true) (h3 : (xs.length + ys.length) * by' ≤ 140737488355328) (hb : 0 < by') (hn : ys ≠ []) (hC : C n' xs') :
    AppG (e = e ∧ s = s ∧ n = xs.length ∧ 0 < by' ∧ (∀ r ∈ ys, allOne r = true) ∧ (xs.length + ys.length) * by' ≤ 140737488355328) ys Z C :=
  AppG.to n' xs' ⟨rfl, rfl, h1, hb, h2, h3⟩ hn hC
theorem AppG.rows0 {e s n by' : Nat} {xs ys : List (List D)} {Z : Unit → Prop} {C : Nat → List (List D) → Prop} (h1 : n = xs.length) (h3 : xs.length * by' ≤ 140737488355328) (hb : 0 < by') (hn : ys = []) (hC : Z ()) :
    AppG (e = e ∧ s = s ∧ n = xs.length ∧ 0 < by' ∧ (∀ r ∈ ys, allOne r = true) ∧ (xs.length + ys.length) * by' ≤ 140737488355328) ys Z C :=
  AppG.nil ⟨rfl, rfl, h1, hb, fun r hr => (by rw [hn] at hr; cases hr), (by rw [hn]; simpa using h3)⟩ hn hC
theorem AppG.row1 {e s n by' : Nat} {xs : List (List D)} {y : List D} {Z : Unit → Prop} {C : Nat → List (List D) → Prop} (xs' : List (List D)) (h1 : n = xs.length) (h2 : allOne y = true) (h3 : (xs.length + 1) * by' ≤ 140737488355328) (hb : 0 < by') (hC : C (n + 1) xs') :
    AppG (e = e ∧ s = s ∧ n = xs.length ∧ 0 < by' ∧ (∀ r ∈ [y], allOne r = true) ∧ (xs.length + [y].length) * by' ≤ 140737488355328) [y] Z C :=
  AppG.to (n + 1) xs' ⟨rfl, rfl, h1, hb, fun r hr => by simp at hr; subst hr; exact h2, h3⟩ (by simp) hC
theorem AppG.new1 {n by' : Nat} {pre : Mem} {d : Nat} {y : List D} {Z : Unit → Prop} {C : Nat → List (List D) → Prop} (h1 : get pre d = none) (h2 : allOne y = true) (h3 : by' ≤ 140737488355328) (hb : 0 < by') (hC : C 1 [y]) :
    AppG (get pre d = none ∧ 0 < by' ∧ (∀ r ∈ [y], allOne r = true) ∧ [y].length * by' ≤ 140737488355328) [y] Z C :=
  AppG.to 1 [y] ⟨h1, hb, fun r hr => by simp at hr; subst hr; exact h2, by simpa using h3⟩ (by simp) hC
theorem take_map_all {α : Type} (f : α → List D) (l : List α) : (l.map f).take l.length = l.map f := by rw [← List.length_map (f := f), List.take_length]
def ksD (ks : List Int) : List (List D) := ks.map fun k => [.v (.int .i64 k)]
theorem ksD_get {ks : List Int} {j : Nat} {c : Int} (h : ks[j]? = some c) : (ksD ks)[j]? = some [.v (.int .i64 c)] := by simp [ksD, h]
theorem ksD_length (ks : List Int) : (ksD ks).length = ks.length := by simp [ksD]
/-- Where a number stands; -1: nowhere. -/
def indexS (k : Int) : List Int → Nat → Int
  | [], _ => -1
  | x :: r, i => match decide (x = k) with
    | true => i
    | false => indexS k r (i + 1)
theorem indexS_drop {k : Int} : ∀ (l : List Int) (i j : Nat), (∀ q, q < j → ∀ c, l[q]? = some c → c ≠ k) → j ≤ l.length → indexS k l i = indexS k (l.drop j) (i + j)
  | [], i, j, _, hj => by simp [indexS]
  | x :: r, i, 0, _, _ => by simp
  | x :: r, i, j + 1, h, hj => by
    have h0 : decide (x = k) = false := decide_eq_false (h 0 (by omega) x rfl)
    simp only [indexS, h0, List.drop_succ_cons]
    rw [indexS_drop r (i + 1) j (fun q hq c hc => h (q + 1) (by omega) c (by simpa using hc)) (by simpa using hj)]
    congr 1; omega
theorem indexS_has {k : Int} : ∀ (l : List Int) (i : Nat), decide (indexS k l i ≥ 0) = l.contains k
  | [], i => by simp [indexS]
  | x :: r, i => by
    have ih := indexS_has (k := k) r (i + 1)
    by_cases h : x = k
    · subst h; simp [indexS]
    · have e : indexS k (x :: r) i = indexS k r (i + 1) := by simp [indexS, h]
      rw [e, ih, List.contains_cons]
      have : (k == x) = false := by simp; omega
      rw [this]; simp
namespace Tryz
open Go.Proofs
theorem intsIndex (ks : List Int) (k : Int) (hk : ks.length < 1000000) : PCall Tryz.prog 187 [] [.list 1 (ksD ks), .v (.int .i64 k)] (.ret (.v (.int .i64 (indexS k ks 0))) []) := by
  generalize hR : indexS k ks 0 = R
  refine pcall_of (news := []) cxOK Tryz.func187 rfl Tryz.ntmps187 rfl rfl rfl (by decide) ?_
  conv => whnf
  refine LoopW.to (ι := Nat) (fun i => i ≤ ks.length ∧ (∀ q, q < i → ∀ c, ks[q]? = some c → c ≠ k)) (fun i => ks.length - i)
    (fun i => [(0, .list 1 (ksD ks)), (1, .v (.int .i64 k)), (7, .v (.int .i64 ks.length)), (8, .v (.int .i64 i))]) (fun _ => []) [] 0 ⟨Nat.zero_le _, fun q h => by omega⟩ ⟨⟨rfl, rfl, congrArg (fun k : Nat => D.v (.int .i64 (k : Int))) (ksD_length ks), rfl, trivial⟩, trivial⟩ ?_
  rintro i ⟨h1, h2⟩
  repeat' ((conv => whnf); first | exact trivial | refine aB rfl ?_ | refine sY rfl ?_ | refine sN rfl ?_ | refine sM (fun _ => ?_) (fun _ => ?_) | refine cK (by kernel_rfl) ?_ | refine And.intro ?_ ?_ | exact Or.inl ⟨rfl, rfl⟩ | exact rfl)
  all_goals (conv => whnf)
  · rename_i h
    have h := decT h
    have hi : i < ks.length := by omega
    refine IdxG.to i [.v (.int .i64 ks[i])] rfl (ksD_get (List.getElem?_eq_getElem hi)) ?_
    repeat' ((conv => whnf); first | refine aB rfl ?_ | refine sY rfl ?_ | refine sN rfl ?_ | refine sM (fun _ => ?_) (fun _ => ?_))
    all_goals (conv => whnf)
    · rename_i h3
      have h3 : decide (k = ks[i]) = true := h3
      have h3 := decT h3
      have : R = i := by
        rw [← hR, indexS_drop ks 0 i h2 h1, List.drop_eq_getElem_cons hi]
        simp [indexS, h3]
      subst this
      trivial
    · rename_i h3
      have h3 : decide (k = ks[i]) = false := h3
      have h3 := decF h3
      refine KI.i64 ((i + 1 : Nat) : Int) (by simp) (by omega) ?_
      conv => whnf
      refine NextG.to (i + 1) ⟨by omega, fun q hq c hc => ?_⟩ (by omega) ⟨⟨rfl, rfl, rfl, rfl, trivial⟩, trivial⟩
      by_cases hqi : q < i
      · exact h2 q hqi c hc
      · obtain rfl : q = i := by omega
        rw [List.getElem?_eq_getElem hi] at hc
        injection hc with hc
        subst hc; exact fun e => h3 e.symm
  · rename_i h
    have h := decF h
    have hi : i = ks.length := by omega
    subst hi
    have : R = -1 := by
      rw [← hR, indexS_drop ks 0 _ h2 (Nat.le_refl _), List.drop_length]; rfl
    subst this
    trivial
theorem intsContains (ks : List Int) (k : Int) (hk : ks.length < 1000000) : PCall Tryz.prog 159 [] [.list 1 (ksD ks), .v (.int .i64 k)] (.ret (.v (.bool (ks.contains k))) []) := by
  rw [← indexS_has ks 0]
  refine pcall_of (news := []) cxOK Tryz.func159 rfl Tryz.ntmps159 rfl rfl rfl (by decide) ?_
  conv => whnf
  refine call0 (intsIndex ks k hk) ?_
  repeat' ((conv => whnf); first | exact trivial | refine aB rfl ?_ | refine sY rfl ?_ | refine sN rfl ?_ | refine sM (fun _ => ?_) (fun _ => ?_) | refine cK (by kernel_rfl) ?_ | refine And.intro ?_ ?_ | exact Or.inl ⟨rfl, rfl⟩ | exact rfl)
  all_goals (conv => whnf)
end Tryz
end Go.Dm
namespace Go.Dm
/-! ### lex: all tokens, the walk -/
def tokensS (b : List UInt8) : Option (List TokP) × Option (Nat × Nat) × Nat := match decide (b.length > 4000) with
  | true => (none, none, 5)
  | false => ((tokensGo (b.length + 1) b (1, 1) 0 []).1, some (tokensGo (b.length + 1) b (1, 1) 0 []).2.1, (tokensGo (b.length + 1) b (1, 1) 0 []).2.2)
def plA : Option (Nat × Nat) → Nat
  | none => 0
  | some p => fl p.1
def plB : Option (Nat × Nat) → Nat
  | none => 0
  | some p => fl p.2
def plO (p : Option (Nat × Nat)) : Value := .complex .f64 (plA p) (plB p)
def tokLD : Option (List TokP) → D
  | none => .v (.slice none 0 0)
  | some l => .list 3 (l.map tokRow)
def tokensD (r : Option (List TokP) × Option (Nat × Nat) × Nat) : D := .tup [tokLD r.1, .v (plO r.2.1), .v (.int .i64 r.2.2)]
namespace Tryz
open Go.Proofs
theorem tok_len (l : List TokP) : (l.map tokRow).length = l.length := by simp
structure TokSt where
  b : List UInt8
  p : Nat × Nat
  m : Nat
  acc : List TokP
def TokInv (R : Option (List TokP) × (Nat × Nat) × Nat) (s : TokSt) : Prop :=
  (∃ n, tokensGo n s.b s.p s.m s.acc = R ∧ s.b.length < n) ∧ 1 ≤ s.p.1 ∧ 1 ≤ s.p.2 ∧ s.p.1 + s.b.length ≤ 4001 ∧ s.p.2 + s.b.length ≤ 4001 ∧ s.m ≤ 2 ∧ s.acc.length + s.b.length ≤ 4000
def tokF (b0 : List UInt8) (s : TokSt) : Fr := [(0, .list 1 (byD b0)), (2, .row 2 s.acc.length), (3, .v noPl), (4, .v (.int .i64 0)), (5, .ref 18 0), (6, .v (.int .i64 s.m))]
def tokG (s : TokSt) : Mem := [(18, .cells [.list 1 (byD s.b), .v (pl s.p.1 s.p.2)]), (2, .row 127 3 (s.acc.map tokRow))]
theorem lexTokensBig (b : List UInt8) (hb : 4000 < b.length) : PCall Tryz.prog 67 [] [.list 1 (byD b)] (.ret (tokensD (tokensS b)) []) := by
  rw [show tokensS b = (none, none, 5) from by simp only [tokensS, show decide (b.length > 4000) = true from decide_eq_true hb]]
  refine pcall_of (news := [18, 9]) cxOK Tryz.func67 rfl Tryz.ntmps67 rfl rfl rfl (by decide) ?_
  repeat' ((conv => whnf); first | refine aB rfl ?_ | refine sY rfl ?_ | refine sN rfl ?_ | refine sM (fun _ => ?_) (fun _ => ?_))
  all_goals (conv => whnf)
  refine ScopeW.straight ?_
  repeat' ((conv => whnf); first | refine aB rfl ?_ | refine sY rfl ?_ | refine sN rfl ?_ | refine sM (fun _ => ?_) (fun _ => ?_))
  all_goals (conv => whnf)
  · exact ⟨rfl, rfl, rfl, trivial⟩
  · rename_i h
    have h := decF h
    rw [byD_length] at h
    omega
set_option maxHeartbeats 4000000 in
theorem lexTokensSmall (b : List UInt8) (hb : b.length ≤ 4000) : PCall Tryz.prog 67 [] [.list 1 (byD b)] (.ret (tokensD (tokensS b)) []) := by
  rw [show tokensS b = ((tokensGo (b.length + 1) b (1, 1) 0 []).1, some (tokensGo (b.length + 1) b (1, 1) 0 []).2.1, (tokensGo (b.length + 1) b (1, 1) 0 []).2.2) from by simp only [tokensS, show decide (b.length > 4000) = false from decide_eq_false (by omega)]]
  generalize hR' : tokensGo (b.length + 1) b (1, 1) 0 [] = R'
  refine pcall_of (news := [18, 9]) cxOK Tryz.func67 rfl Tryz.ntmps67 rfl rfl rfl (by decide) ?_
  repeat' ((conv => whnf); first | refine aB rfl ?_ | refine sY rfl ?_ | refine sN rfl ?_ | refine sM (fun _ => ?_) (fun _ => ?_))
  all_goals (conv => whnf)
  refine ScopeW.loop (ι := TokSt) 1 (TokInv R') (fun s => s.b.length) (tokF b) tokG rfl ?_ ?_
  · repeat' ((conv => whnf); first | refine aB rfl ?_ | refine sY rfl ?_ | refine sN rfl ?_ | refine sM (fun _ => ?_) (fun _ => ?_))
    all_goals (conv => whnf)
    · rename_i h
      have h := decT h
      rw [byD_length] at h
      omega
    · refine call0 (placeOf (l := 1) (c := 1) (by omega) (by omega) (by omega) (by omega)) ?_
      repeat' ((conv => whnf); first | refine aB rfl ?_ | refine sY rfl ?_ | refine sN rfl ?_ | refine sM (fun _ => ?_) (fun _ => ?_))
      all_goals (conv => whnf)
      refine GotoG.first ⟨b, (1, 1), 0, []⟩ [⟨2, 127, 3, 2⟩] ⟨⟨b.length + 1, hR', Nat.lt_succ_self _⟩, Nat.le_refl _, Nat.le_refl _, ?_, ?_, by simp, ?_⟩ ⟨rfl, rfl, ⟨rfl, rfl, rfl, rfl, rfl, rfl, trivial⟩, rfl, rfl, trivial⟩
      · simp only; omega
      · simp only; omega
      · simp only [List.length_nil]; omega
  rintro ⟨c, p, m, acc⟩ ⟨⟨n, h1, h2⟩, h3, h4, h5, h6, h7, h8⟩
  simp only at h1 h2 h3 h4 h5 h6 h7 h8
  obtain ⟨n, rfl⟩ : ∃ k, n = k + 1 := ⟨n - 1, by omega⟩
  cases c with
  | nil =>
    obtain rfl : R' = (some acc, p, 0) := h1.symm
    repeat' ((conv => whnf); first | refine aB rfl ?_ | refine sY rfl ?_ | refine sN rfl ?_ | refine sM (fun _ => ?_) (fun _ => ?_))
    all_goals (conv => whnf)
    refine callM ((readerPass [] p 0 (Nat.le_refl _) h3 h4 ⟨by simp at h5 ⊢; omega, by simp at h6 ⊢; omega⟩).swap 1000 18) ⟨rfl, trivial⟩ rfl ?_
    repeat' ((conv => whnf); first | refine aB rfl ?_ | refine sY rfl ?_ | refine sN rfl ?_ | refine sM (fun _ => ?_) (fun _ => ?_))
    all_goals (conv => whnf)
    exact ⟨rfl, ResS.row (id := 2) (n := acc.length) (xs := acc.map tokRow) rfl (take_map_all _ _), rfl, rfl, trivial⟩
  | cons c r =>
    have hlen : (c :: r).length ≤ 4000 := by omega
    repeat' ((conv => whnf); first | refine aB rfl ?_ | refine sY rfl ?_ | refine sN rfl ?_ | refine sM (fun _ => ?_) (fun _ => ?_))
    all_goals (conv => whnf)
    · rename_i hm
      have hm : (m : Int) = 2 := decT hm
      have hm2 : m = 2 := by omega
      subst hm2
      obtain rfl : R' = (some acc, stepsS p (c :: r), 0) := by rw [← h1]; rfl
      have hp := readerPass (c :: r) p (byD (c :: r)).length (by rw [byD_length]; exact Nat.le_refl _) h3 h4 ⟨by omega, by omega⟩
      rw [show (c :: r).take (byD (c :: r)).length = c :: r from by rw [byD_length, List.take_length]] at hp
      refine callM (hp.swap 1000 18) ⟨rfl, trivial⟩ rfl ?_
      repeat' ((conv => whnf); first | refine aB rfl ?_ | refine sY rfl ?_ | refine sN rfl ?_ | refine sM (fun _ => ?_) (fun _ => ?_))
      all_goals (conv => whnf)
      exact ⟨rfl, ResS.row (id := 2) (n := acc.length) (xs := acc.map tokRow) rfl (take_map_all _ _), rfl, rfl, trivial⟩
    rename_i hm
    have hm : ¬ (m : Int) = 2 := decF hm
    have hm2 : decide (m = 2) = false := decide_eq_false (by omega)
    refine call0 (lexSkipped c r (by omega)) ?_
    repeat' ((conv => whnf); first | refine aB rfl ?_ | refine sY rfl ?_ | refine sN rfl ?_ | refine sM (fun _ => ?_) (fun _ => ?_))
    all_goals (conv => whnf)
    · rename_i hs hz
      have hs : (skippedS (c :: r)).2 = true := hs
      have hz : ((skippedS (c :: r)).1 : Int) = 0 := decT hz
      have hz2 : decide ((skippedS (c :: r)).1 = 0) = true := decide_eq_true (by omega)
      obtain rfl : R' = (none, p, 4) := by rw [← h1]; simp only [tokensGo, hm2, hs, hz2]
      exact ⟨rfl, rfl, rfl, rfl, trivial⟩
    · rename_i hs hz
      have hs : (skippedS (c :: r)).2 = true := hs
      have hz : ¬ ((skippedS (c :: r)).1 : Int) = 0 := decF hz
      have hz2 : decide ((skippedS (c :: r)).1 = 0) = false := decide_eq_false (by omega)
      have hle := skippedS_le c r
      refine callM ((readerPass (c :: r) p (skippedS (c :: r)).1 hle h3 h4 ⟨by omega, by omega⟩).swap 1000 18) ⟨rfl, trivial⟩ rfl ?_
      repeat' ((conv => whnf); first | refine aB rfl ?_ | refine sY rfl ?_ | refine sN rfl ?_ | refine sM (fun _ => ?_) (fun _ => ?_))
      all_goals (conv => whnf)
      have hst := stepsS_le ((c :: r).take (skippedS (c :: r)).1) p h3 h4
      rw [List.length_take, Nat.min_eq_left hle] at hst
      have hd : ((c :: r).drop (skippedS (c :: r)).1).length = (c :: r).length - (skippedS (c :: r)).1 := List.length_drop
      refine GotoG.again ⟨(c :: r).drop (skippedS (c :: r)).1, stepsS p ((c :: r).take (skippedS (c :: r)).1), m, acc⟩ ⟨⟨n, ?_, ?_⟩, hst.1, hst.2.1, ?_, ?_, h7, ?_⟩ ?_ ⟨⟨rfl, rfl, rfl, rfl, rfl, rfl, trivial⟩, rfl, rfl, trivial⟩
      · rw [← h1]; simp only [tokensGo, hm2, hs, hz2]
      all_goals simp only
      all_goals omega
    · rename_i hs
      have hs : (skippedS (c :: r)).2 = false := hs
      refine call0 (lexToken c r (by omega)) ?_
      repeat' ((conv => whnf); first | refine aB rfl ?_ | refine sY rfl ?_ | refine sN rfl ?_ | refine sM (fun _ => ?_) (fun _ => ?_))
      all_goals (conv => whnf)
      · rename_i he
        have he := decF (notT he)
        have he2 : decide ((tokenS (c :: r)).e = 0) = false := decide_eq_false (fun h => he (by rw [h]; rfl))
        obtain rfl : R' = (none, p, (tokenS (c :: r)).e) := by rw [← h1]; simp only [tokensGo, hm2, hs, he2]
        exact ⟨rfl, rfl, rfl, rfl, trivial⟩
      · rename_i he hk
        have he := decT (notF he)
        have he1 : (tokenS (c :: r)).e = 0 := by omega
        have he2 : decide ((tokenS (c :: r)).e = 0) = true := decide_eq_true he1
        have hk : ((tokenS (c :: r)).kind : Int) = 9 := decT hk
        have hk2 : decide ((tokenS (c :: r)).kind = 9) = true := decide_eq_true (by omega)
        obtain ⟨hn1, hn2⟩ := tokenS_n he1
        refine KI.i64 ((m + 1 : Nat) : Int) (by simp) (by omega) ?_
        repeat' ((conv => whnf); first | refine aB rfl ?_ | refine sY rfl ?_ | refine sN rfl ?_ | refine sM (fun _ => ?_) (fun _ => ?_))
        all_goals (conv => whnf)
        refine AppG.row1 ((acc ++ [TokP.mk (tokenS (c :: r)).kind (tokenS (c :: r)).text p]).map tokRow) (tok_len _).symm rfl ?_ (by decide) ⟨rfl, ?_, ?_⟩
        · rw [tok_len]; simp only; omega
        · rw [List.map_append]; rfl
        repeat' ((conv => whnf); first | refine aB rfl ?_ | refine sY rfl ?_ | refine sN rfl ?_ | refine sM (fun _ => ?_) (fun _ => ?_))
        all_goals (conv => whnf)
        refine callM ((readerPass (c :: r) p (tokenS (c :: r)).n hn2 h3 h4 ⟨by omega, by omega⟩).swap 1000 18) ⟨rfl, trivial⟩ rfl ?_
        repeat' ((conv => whnf); first | refine aB rfl ?_ | refine sY rfl ?_ | refine sN rfl ?_ | refine sM (fun _ => ?_) (fun _ => ?_))
        all_goals (conv => whnf)
        have hst := stepsS_le ((c :: r).take (tokenS (c :: r)).n) p h3 h4
        rw [List.length_take, Nat.min_eq_left hn2] at hst
        have hd : ((c :: r).drop (tokenS (c :: r)).n).length = (c :: r).length - (tokenS (c :: r)).n := List.length_drop
        have ha : (acc ++ [TokP.mk (tokenS (c :: r)).kind (tokenS (c :: r)).text p]).length = acc.length + 1 := by simp
        refine GotoG.again ⟨(c :: r).drop (tokenS (c :: r)).n, stepsS p ((c :: r).take (tokenS (c :: r)).n), m + 1, acc ++ [TokP.mk (tokenS (c :: r)).kind (tokenS (c :: r)).text p]⟩ ⟨⟨n, ?_, ?_⟩, hst.1, hst.2.1, ?_, ?_, ?_, ?_⟩ ?_ ⟨⟨rfl, congrArg (D.row 2) ha.symm, rfl, rfl, rfl, rfl, trivial⟩, rfl, rfl, trivial⟩
        · rw [← h1]; simp only [tokensGo, hm2, hs, he2, hk2]
        all_goals simp only
        all_goals omega
      · rename_i he hk
        have he := decT (notF he)
        have he1 : (tokenS (c :: r)).e = 0 := by omega
        have he2 : decide ((tokenS (c :: r)).e = 0) = true := decide_eq_true he1
        have hk : ¬ ((tokenS (c :: r)).kind : Int) = 9 := decF hk
        have hk2 : decide ((tokenS (c :: r)).kind = 9) = false := decide_eq_false (by omega)
        obtain ⟨hn1, hn2⟩ := tokenS_n he1
        refine AppG.row1 ((acc ++ [TokP.mk (tokenS (c :: r)).kind (tokenS (c :: r)).text p]).map tokRow) (tok_len _).symm rfl ?_ (by decide) ⟨rfl, ?_, ?_⟩
        · rw [tok_len]; simp only; omega
        · rw [List.map_append]; rfl
        repeat' ((conv => whnf); first | refine aB rfl ?_ | refine sY rfl ?_ | refine sN rfl ?_ | refine sM (fun _ => ?_) (fun _ => ?_))
        all_goals (conv => whnf)
        refine callM ((readerPass (c :: r) p (tokenS (c :: r)).n hn2 h3 h4 ⟨by omega, by omega⟩).swap 1000 18) ⟨rfl, trivial⟩ rfl ?_
        repeat' ((conv => whnf); first | refine aB rfl ?_ | refine sY rfl ?_ | refine sN rfl ?_ | refine sM (fun _ => ?_) (fun _ => ?_))
        all_goals (conv => whnf)
        have hst := stepsS_le ((c :: r).take (tokenS (c :: r)).n) p h3 h4
        rw [List.length_take, Nat.min_eq_left hn2] at hst
        have hd : ((c :: r).drop (tokenS (c :: r)).n).length = (c :: r).length - (tokenS (c :: r)).n := List.length_drop
        have ha : (acc ++ [TokP.mk (tokenS (c :: r)).kind (tokenS (c :: r)).text p]).length = acc.length + 1 := by simp
        refine GotoG.again ⟨(c :: r).drop (tokenS (c :: r)).n, stepsS p ((c :: r).take (tokenS (c :: r)).n), m, acc ++ [TokP.mk (tokenS (c :: r)).kind (tokenS (c :: r)).text p]⟩ ⟨⟨n, ?_, ?_⟩, hst.1, hst.2.1, ?_, ?_, ?_, ?_⟩ ?_ ⟨⟨rfl, congrArg (D.row 2) ha.symm, rfl, rfl, rfl, rfl, trivial⟩, rfl, rfl, trivial⟩
        · rw [← h1]; simp only [tokensGo, hm2, hs, he2, hk2]
        all_goals simp only
        all_goals omega
theorem lexTokens (b : List UInt8) : PCall Tryz.prog 67 [] [.list 1 (byD b)] (.ret (tokensD (tokensS b)) []) := by
  rcases Nat.lt_or_ge 4000 b.length with h | h
  · exact lexTokensBig b h
  · exact lexTokensSmall b h
end Tryz
end Go.Dm
namespace Go.Dm
/-! ### yacc: a reader of tokens -/
structure RefS where
  text : List UInt8
  at' : Option (Nat × Nat)
def refCells (r : RefS) : List D := [.v (str r.text), .v (plO r.at')]
abbrev Wr := Option (Nat × Nat) × Nat
def exO {α : Type} (wr : Wr → D) (f : α → Out) : Except Wr α → Out
  | .ok a => f a
  | .error w => .pan (wr w)
def refOf (t : TokP) : RefS := ⟨t.text, some t.at'⟩
def takeS (l : List TokP) (e : Nat × Nat) (ks : List Int) : Except Wr (RefS × List TokP) := match l with
  | [] => .error (some e, 4)
  | t :: r => match ks.contains (t.kind : Int) with
    | true => .ok (refOf t, r)
    | false => .error (some t.at', 3)
def nextS (l : List TokP) (ks : List Int) : Bool := match l with
  | [] => false
  | t :: _ => ks.contains (t.kind : Int)
def refsS : List TokP → List RefS × List TokP
  | [] => ([], [])
  | t :: r => match [1, 2].contains (t.kind : Int) with
    | true => (refOf t :: (refsS r).1, (refsS r).2)
    | false => ([], t :: r)
def yrM (l : List TokP) (e : Nat × Nat) : Mem := [(1000, .cells [.list 3 (l.map tokRow), .v (pl e.1 e.2)])]
namespace Tryz
open Go.Proofs
def yWr (w : Wr) : D := .iface 131 (.agg [.v (plO w.1), .v (.int .i64 w.2)])
def takeO (l : List TokP) (e : Nat × Nat) (ks : List Int) : Out := exO yWr (fun p => .ret (.agg (refCells p.1)) (yrM p.2 e)) (takeS l e ks)
theorem yaccNext (l : List TokP) (e : Nat × Nat) (ks : List Int) (hk : ks.length < 1000000) : PCall Tryz.prog 120 (yrM l e) [.ref 1000 0, .list 1 (ksD ks)] (.ret (.v (.bool (nextS l ks))) (yrM l e)) := by
  refine pcall_of (news := []) cxOK Tryz.func120 rfl Tryz.ntmps120 rfl rfl rfl (by decide) ?_
  cases l with
  | nil =>
    repeat' ((conv => whnf); first | exact trivial | refine aB rfl ?_ | refine sY rfl ?_ | refine sN rfl ?_ | refine sM (fun _ => ?_) (fun _ => ?_) | refine cK (by kernel_rfl) ?_ | refine And.intro ?_ ?_ | exact Or.inl ⟨rfl, rfl⟩ | exact rfl)
    all_goals (conv => whnf)
  | cons t r =>
    repeat' ((conv => whnf); first | refine aB rfl ?_ | refine sY rfl ?_ | refine sN rfl ?_ | refine sM (fun _ => ?_) (fun _ => ?_))
    all_goals (conv => whnf)
    · refine IdxG.to 0 (tokRow t) rfl rfl ?_
      repeat' ((conv => whnf); first | refine aB rfl ?_ | refine sY rfl ?_ | refine sN rfl ?_ | refine sM (fun _ => ?_) (fun _ => ?_))
      all_goals (conv => whnf)
      refine call0 (intsContains ks t.kind hk) ?_
      repeat' ((conv => whnf); first | exact trivial | refine aB rfl ?_ | refine sY rfl ?_ | refine sN rfl ?_ | refine sM (fun _ => ?_) (fun _ => ?_) | refine cK (by kernel_rfl) ?_ | refine And.intro ?_ ?_ | exact Or.inl ⟨rfl, rfl⟩ | exact rfl)
      all_goals (conv => whnf)
    · rename_i h
      have := decF h
      simp at this
theorem yaccTake (l : List TokP) (e : Nat × Nat) (ks : List Int) (hk : ks.length < 1000000) : PCall Tryz.prog 122 (yrM l e) [.ref 1000 0, .list 1 (ksD ks)] (takeO l e ks) := by
  cases l with
  | nil =>
    refine pcall_of (news := [4, 5]) cxOK Tryz.func122 rfl Tryz.ntmps122 rfl rfl rfl (by decide) ?_
    repeat' ((conv => whnf); first | refine aB rfl ?_ | refine sY rfl ?_ | refine sN rfl ?_ | refine sM (fun _ => ?_) (fun _ => ?_))
    all_goals (conv => whnf)
    exact ⟨_, rfl, Or.inl ⟨rfl, rfl⟩⟩
  | cons t r =>
    refine pcall_of (news := [4, 5]) cxOK Tryz.func122 rfl Tryz.ntmps122 rfl rfl rfl (by decide) ?_
    repeat' ((conv => whnf); first | refine aB rfl ?_ | refine sY rfl ?_ | refine sN rfl ?_ | refine sM (fun _ => ?_) (fun _ => ?_))
    all_goals (conv => whnf)
    refine IdxG.to 0 (tokRow t) rfl rfl ?_
    repeat' ((conv => whnf); first | refine aB rfl ?_ | refine sY rfl ?_ | refine sN rfl ?_ | refine sM (fun _ => ?_) (fun _ => ?_))
    all_goals (conv => whnf)
    refine call0 (intsContains ks t.kind hk) ?_
    repeat' ((conv => whnf); first | refine aB rfl ?_ | refine sY rfl ?_ | refine sN rfl ?_ | refine sM (fun _ => ?_) (fun _ => ?_))
    all_goals (conv => whnf)
    · rename_i h
      have h := notT h
      have ht : takeO (t :: r) e ks = .pan (yWr (some t.at', 3)) := by simp only [takeO, takeS, h]; rfl
      rw [ht]
      exact ⟨_, rfl, Or.inl ⟨rfl, rfl⟩⟩
    · rename_i h
      have h := notF h
      have ht : takeO (t :: r) e ks = .ret (.agg (refCells (refOf t))) (yrM r e) := by simp only [takeO, takeS, h]; rfl
      rw [ht]
      refine BndG.to 1 rfl ?_
      conv => whnf
      refine CutL.to (r.map tokRow) (by simp) (Nat.le_refl _) (by simp [take_map_all]) ?_
      repeat' ((conv => whnf); first | exact trivial | refine aB rfl ?_ | refine sY rfl ?_ | refine sN rfl ?_ | refine sM (fun _ => ?_) (fun _ => ?_) | refine cK (by kernel_rfl) ?_ | refine And.intro ?_ ?_ | exact Or.inl ⟨rfl, rfl⟩ | exact rfl)
      all_goals (conv => whnf)
end Tryz
end Go.Dm
namespace Go.Dm
/-! ### yacc: declarations -/
structure DeclS where
  kind : Nat
  names : List RefS
def declCells (d : DeclS) : List D := [.v (.int .i64 d.kind), .list 2 (d.names.map refCells)]
def kindS : List TokP → Nat
  | [] => 0
  | t :: _ => t.kind
def declS (l : List TokP) (e : Nat × Nat) : Except Wr (DeclS × List TokP) := match takeS l e [3, 4, 5, 6, 7] with
  | .error w => .error w
  | .ok p => match decide (kindS l = 7) with
    | true => match takeS p.2 e [1] with
      | .error w => .error w
      | .ok q => .ok (⟨kindS l, [q.1]⟩, q.2)
    | false => match takeS p.2 e [1, 2] with
      | .error w => .error w
      | .ok q => .ok (⟨kindS l, q.1 :: (refsS q.2).1⟩, (refsS q.2).2)
theorem takeS_len {l : List TokP} {e : Nat × Nat} {ks : List Int} {p : RefS × List TokP} (h : takeS l e ks = .ok p) : p.2.length + 1 = l.length := by
  cases l with
  | nil => simp [takeS] at h
  | cons t r =>
    simp only [takeS] at h
    split at h
    · injection h with h; subst h; rfl
    · cases h
theorem refsS_len : ∀ l : List TokP, (refsS l).1.length + (refsS l).2.length = l.length
  | [] => rfl
  | t :: r => by
    have := refsS_len r
    simp only [refsS]
    split
    · simp only [List.length_cons]; omega
    · simp
theorem nextS_take {l : List TokP} {e : Nat × Nat} {ks : List Int} (h : nextS l ks = true) : ∃ t r, l = t :: r ∧ takeS l e ks = .ok (refOf t, r) ∧ ks.contains (t.kind : Int) = true := by
  cases l with
  | nil => simp [nextS] at h
  | cons t r =>
    simp only [nextS] at h
    exact ⟨t, r, rfl, by simp only [takeS, h], h⟩
namespace Tryz
open Go.Proofs
theorem takeOk {l : List TokP} {e : Nat × Nat} {ks : List Int} {p : RefS × List TokP} (h : takeS l e ks = .ok p) (hk : ks.length < 1000000) : PCall Tryz.prog 122 (yrM l e) [.ref 1000 0, .list 1 (ksD ks)] (.ret (.agg (refCells p.1)) (yrM p.2 e)) := by
  have := yaccTake l e ks hk
  rwa [takeO, h] at this
theorem takeBad {l : List TokP} {e : Nat × Nat} {ks : List Int} {w : Wr} (h : takeS l e ks = .error w) (hk : ks.length < 1000000) : PCall Tryz.prog 122 (yrM l e) [.ref 1000 0, .list 1 (ksD ks)] (.pan (yWr w)) := by
  have := yaccTake l e ks hk
  rwa [takeO, h] at this
theorem refsS_stop {l : List TokP} (h : nextS l [1, 2] = false) : refsS l = ([], l) := by
  cases l with
  | nil => rfl
  | cons t r => simp only [nextS] at h; simp only [refsS, h]
structure RefSt where
  l : List TokP
  acc : List RefS
theorem ref_len (l : List RefS) : (l.map refCells).length = l.length := by simp
theorem yaccRefs (l : List TokP) (e : Nat × Nat) (hl : l.length ≤ 4000) : PCall Tryz.prog 160 (yrM l e) [.ref 1000 0] (.ret (.list 2 ((refsS l).1.map refCells)) (yrM (refsS l).2 e)) := by
  generalize hR : refsS l = R
  refine pcall_of (news := []) cxOK Tryz.func160 rfl Tryz.ntmps160 rfl rfl rfl (by decide) ?_
  conv => whnf
  refine LoopW.to (ι := RefSt) (fun s => s.l.length + s.acc.length ≤ l.length ∧ R = (s.acc ++ (refsS s.l).1, (refsS s.l).2)) (fun s => s.l.length)
    (fun s => [(0, .ref 1000 0), (2, .row 2 s.acc.length)]) (fun s => (2, .row 141 2 (s.acc.map refCells)) :: yrM s.l e) [⟨2, 141, 2, 2⟩] ⟨l, []⟩ ⟨by simp, by simp [hR]⟩ ⟨rfl, rfl, ⟨rfl, rfl, trivial⟩, rfl, rfl, trivial⟩ ?_
  rintro ⟨l', acc⟩ ⟨h1, h2⟩
  simp only at h1 h2
  repeat' ((conv => whnf); first | exact trivial | refine aB rfl ?_ | refine sY rfl ?_ | refine sN rfl ?_ | refine sM (fun _ => ?_) (fun _ => ?_) | refine cK (by kernel_rfl) ?_ | refine And.intro ?_ ?_ | exact Or.inl ⟨rfl, rfl⟩ | exact rfl)
  all_goals (conv => whnf)
  refine callM (yaccNext l' e [1, 2] (by decide)) ⟨rfl, trivial⟩ rfl ?_
  repeat' ((conv => whnf); first | refine aB rfl ?_ | refine sY rfl ?_ | refine sN rfl ?_ | refine sM (fun _ => ?_) (fun _ => ?_))
  all_goals (conv => whnf)
  · rename_i h
    obtain ⟨t, r, rfl, h3, h4⟩ := nextS_take (e := e) h
    refine callM (takeOk h3 (by decide)) ⟨rfl, trivial⟩ rfl ?_
    repeat' ((conv => whnf); first | refine aB rfl ?_ | refine sY rfl ?_ | refine sN rfl ?_ | refine sM (fun _ => ?_) (fun _ => ?_))
    all_goals (conv => whnf)
    have ha : (acc ++ [refOf t]).length = acc.length + 1 := by simp
    simp only [List.length_cons] at h1
    refine AppG.row1 ((acc ++ [refOf t]).map refCells) (ref_len _).symm rfl ?_ (by decide) ⟨rfl, ?_, ?_⟩
    · rw [ref_len]; simp only; omega
    · rw [List.map_append]; rfl
    repeat' ((conv => whnf); first | refine aB rfl ?_ | refine sY rfl ?_ | refine sN rfl ?_ | refine sM (fun _ => ?_) (fun _ => ?_))
    all_goals (conv => whnf)
    refine NextG.to ⟨r, acc ++ [refOf t]⟩ ⟨?_, ?_⟩ (by simp) ⟨⟨rfl, congrArg (D.row 2) ha.symm, trivial⟩, rfl, rfl, trivial⟩
    · simp only; omega
    · rw [h2]
      have h5 : [1, 2].contains (t.kind : Int) = true := h4
      simp only [refsS, h5, List.append_assoc, List.singleton_append]
  · rename_i h
    rw [refsS_stop h] at h2
    obtain rfl : R = (acc, l') := by simpa using h2
    exact ⟨ResS.row (id := 2) (n := acc.length) (xs := acc.map refCells) rfl (take_map_all _ _), ⟨Or.inl ⟨rfl, rfl⟩, Or.inl ⟨rfl, rfl⟩, trivial⟩, trivial⟩
theorem yaccDecl (l : List TokP) (e : Nat × Nat) (hl : l.length ≤ 4000) : PCall Tryz.prog 121 (yrM l e) [.ref 1000 0] (exO yWr (fun p => .ret (.agg (declCells p.1)) (yrM p.2 e)) (declS l e)) := by
  generalize hR : declS l e = R
  refine pcall_of (news := [2, 3, 534]) cxOK Tryz.func121 rfl Tryz.ntmps121 rfl rfl rfl (by decide) ?_
  cases l with
  | nil =>
    obtain rfl : R = .error (some e, 4) := hR.symm
    repeat' ((conv => whnf); first | refine aB rfl ?_ | refine sY rfl ?_ | refine sN rfl ?_ | refine sM (fun _ => ?_) (fun _ => ?_))
    all_goals (conv => whnf)
    refine callM (takeBad (l := []) (e := e) (ks := [3, 4, 5, 6, 7]) rfl (by decide)) ⟨rfl, trivial⟩ rfl ?_
    conv => whnf
    exact ⟨_, rfl, Or.inl ⟨rfl, rfl⟩⟩
  | cons t r =>
    repeat' ((conv => whnf); first | refine aB rfl ?_ | refine sY rfl ?_ | refine sN rfl ?_ | refine sM (fun _ => ?_) (fun _ => ?_))
    all_goals (conv => whnf)
    · refine IdxG.to 0 (tokRow t) rfl rfl ?_
      repeat' ((conv => whnf); first | refine aB rfl ?_ | refine sY rfl ?_ | refine sN rfl ?_ | refine sM (fun _ => ?_) (fun _ => ?_))
      all_goals (conv => whnf)
      cases ht : takeS (t :: r) e [3, 4, 5, 6, 7] with
      | error w =>
        obtain rfl : R = .error w := by rw [← hR]; simp only [declS, ht]
        refine callM (takeBad ht (by decide)) ⟨rfl, trivial⟩ rfl ?_
        conv => whnf
        exact ⟨_, rfl, Or.inl ⟨rfl, rfl⟩⟩
      | ok p =>
        have hp := takeS_len ht
        refine callM (takeOk ht (by decide)) ⟨rfl, trivial⟩ rfl ?_
        repeat' ((conv => whnf); first | refine aB rfl ?_ | refine sY rfl ?_ | refine sN rfl ?_ | refine sM (fun _ => ?_) (fun _ => ?_))
        all_goals (conv => whnf)
        · rename_i h7
          have h7 : (t.kind : Int) = 7 := decT h7
          have h7' : decide (kindS (t :: r) = 7) = true := decide_eq_true (by simp only [kindS]; omega)
          cases hq : takeS p.2 e [1] with
          | error w =>
            obtain rfl : R = .error w := by rw [← hR]; simp only [declS, ht, h7', hq]
            refine callM (takeBad hq (by decide)) ⟨rfl, trivial⟩ rfl ?_
            conv => whnf
            exact ⟨_, rfl, Or.inl ⟨rfl, rfl⟩⟩
          | ok q =>
            obtain rfl : R = .ok (⟨t.kind, [q.1]⟩, q.2) := by rw [← hR]; simp only [declS, ht, h7', hq]; rfl
            refine callM (takeOk hq (by decide)) ⟨rfl, trivial⟩ rfl ?_
            repeat' ((conv => whnf); first | exact trivial | refine aB rfl ?_ | refine sY rfl ?_ | refine sN rfl ?_ | refine sM (fun _ => ?_) (fun _ => ?_) | refine cK (by kernel_rfl) ?_ | refine And.intro ?_ ?_ | exact Or.inl ⟨rfl, rfl⟩ | exact rfl)
            all_goals (conv => whnf)
        · rename_i h7
          have h7 : ¬ (t.kind : Int) = 7 := decF h7
          have h7' : decide (kindS (t :: r) = 7) = false := decide_eq_false (by simp only [kindS]; omega)
          cases hq : takeS p.2 e [1, 2] with
          | error w =>
            obtain rfl : R = .error w := by rw [← hR]; simp only [declS, ht, h7', hq]
            refine callM (takeBad hq (by decide)) ⟨rfl, trivial⟩ rfl ?_
            conv => whnf
            exact ⟨_, rfl, Or.inl ⟨rfl, rfl⟩⟩
          | ok q =>
            have hql := takeS_len hq
            have hrl := refsS_len q.2
            obtain rfl : R = .ok (⟨t.kind, q.1 :: (refsS q.2).1⟩, (refsS q.2).2) := by rw [← hR]; simp only [declS, ht, h7', hq]; rfl
            refine callM (takeOk hq (by decide)) ⟨rfl, trivial⟩ rfl ?_
            repeat' ((conv => whnf); first | refine aB rfl ?_ | refine sY rfl ?_ | refine sN rfl ?_ | refine sM (fun _ => ?_) (fun _ => ?_))
            all_goals (conv => whnf)
            refine callM (yaccRefs q.2 e (by simp only [List.length_cons] at hl hp; omega)) ⟨rfl, trivial⟩ rfl ?_
            repeat' ((conv => whnf); first | refine aB rfl ?_ | refine sY rfl ?_ | refine sN rfl ?_ | refine sM (fun _ => ?_) (fun _ => ?_))
            all_goals (conv => whnf)
            have hbd : q.2.length ≤ 4000 := by simp only [List.length_cons] at hl hp; omega
            cases hrs : (refsS q.2).1 with
            | nil =>
              refine AppG.rows0 rfl (Nat.le_of_ble_eq_true rfl) (by decide) rfl ?_
              repeat' ((conv => whnf); first | refine aB rfl ?_ | refine sY rfl ?_ | refine sN rfl ?_ | refine sM (fun _ => ?_) (fun _ => ?_))
              all_goals (conv => whnf)
              refine ⟨rfl, ?_⟩
              repeat' ((conv => whnf); first | refine aB rfl ?_ | refine sY rfl ?_ | refine sN rfl ?_ | refine sM (fun _ => ?_) (fun _ => ?_))
              all_goals (conv => whnf)
              refine ⟨ResS.pur (.agg (.cons .v (.cons (.row (id := 34) (n := 1) (xs := [refCells q.1]) rfl rfl) .nil))) (by intro x h; cases h), ⟨Or.inl ⟨rfl, rfl⟩, Or.inl ⟨rfl, rfl⟩, trivial⟩, trivial⟩
            | cons r1 rs =>
              rw [hrs] at hrl
              refine AppG.rows (rs.length + 2) ((q.1 :: r1 :: rs).map refCells) rfl ?_ ?_ (by decide) (by simp) ⟨?_, ?_, ?_⟩
              · intro r hr
                obtain ⟨x, _, rfl⟩ := List.mem_map.1 hr
                rfl
              · rw [ref_len]; simp only [List.length_cons, List.length_nil] at hrl ⊢; omega
              · rw [ref_len]; simp only [List.length_cons]; omega
              · rfl
              repeat' ((conv => whnf); first | refine aB rfl ?_ | refine sY rfl ?_ | refine sN rfl ?_ | refine sM (fun _ => ?_) (fun _ => ?_))
              all_goals (conv => whnf)
              refine ⟨rfl, ?_⟩
              repeat' ((conv => whnf); first | refine aB rfl ?_ | refine sY rfl ?_ | refine sN rfl ?_ | refine sM (fun _ => ?_) (fun _ => ?_))
              all_goals (conv => whnf)
              refine ⟨ResS.pur (.agg (.cons .v (.cons (.row (id := 34) (n := rs.length + 2) (xs := (q.1 :: r1 :: rs).map refCells) rfl ?_) .nil))) (by intro x h; cases h), ⟨Or.inl ⟨rfl, rfl⟩, Or.inl ⟨rfl, rfl⟩, trivial⟩, trivial⟩
              exact take_map_all _ (q.1 :: r1 :: rs)
    · rename_i h
      have := decF h
      simp at this
end Tryz
end Go.Dm
namespace Go.Dm
/-! ### yacc: the rules of one nonterminal -/
structure ProdS where
  left : RefS
  right : List RefS
  prec : RefS
def prodCells (p : ProdS) : List D := [.v (str p.left.text), .v (plO p.left.at'), .list 2 (p.right.map refCells), .v (str p.prec.text), .v (plO p.prec.at')]
def precS (l : List TokP) (e : Nat × Nat) : Except Wr (RefS × List TokP) := match nextS l [8] with
  | true => match takeS l e [8] with
    | .error w => .error w
    | .ok p => takeS p.2 e [1, 2]
  | false => .ok (⟨[], none⟩, l)
def groupGo : Nat → RefS → List TokP → Nat × Nat → List ProdS → Except Wr (List ProdS × List TokP)
  | 0, _, l, _, acc => .ok (acc, l)
  | n + 1, left, l, e, acc => match precS (refsS l).2 e with
    | .error w => .error w
    | .ok p => match nextS p.2 [11] with
      | true => match takeS p.2 e [11] with
        | .error w => .error w
        | .ok q => groupGo n left q.2 e (acc ++ [⟨left, (refsS l).1, p.1⟩])
      | false => match takeS p.2 e [12] with
        | .error w => .error w
        | .ok q => .ok (acc ++ [⟨left, (refsS l).1, p.1⟩], q.2)
def groupS (l : List TokP) (e : Nat × Nat) : Except Wr (List ProdS × List TokP) := match takeS l e [1] with
  | .error w => .error w
  | .ok p => match takeS p.2 e [10] with
    | .error w => .error w
    | .ok q => groupGo (q.2.length + 1) p.1 q.2 e []
theorem prod_len (l : List ProdS) : (l.map prodCells).length = l.length := by simp
namespace Tryz
open Go.Proofs
structure GrSt where
  l : List TokP
  acc : List ProdS
set_option maxHeartbeats 4000000 in
theorem yaccGroup (l : List TokP) (e : Nat × Nat) (hl : l.length ≤ 4000) : PCall Tryz.prog 123 (yrM l e) [.ref 1000 0] (exO yWr (fun p => .ret (.row 2 p.1.length) ((2, .row 143 5 (p.1.map prodCells)) :: yrM p.2 e)) (groupS l e)) := by
  cases ht : takeS l e [1] with
  | error w =>
    rw [show groupS l e = .error w from by simp only [groupS, ht]]
    refine pcall_of (news := [3, 4]) cxOK Tryz.func123 rfl Tryz.ntmps123 rfl rfl rfl (by decide) ?_
    repeat' ((conv => whnf); first | refine aB rfl ?_ | refine sY rfl ?_ | refine sN rfl ?_ | refine sM (fun _ => ?_) (fun _ => ?_))
    all_goals (conv => whnf)
    refine ScopeW.straight ?_
    repeat' ((conv => whnf); first | refine aB rfl ?_ | refine sY rfl ?_ | refine sN rfl ?_ | refine sM (fun _ => ?_) (fun _ => ?_))
    all_goals (conv => whnf)
    refine callM (takeBad ht (by decide)) ⟨rfl, trivial⟩ rfl ?_
    conv => whnf
    exact ⟨_, rfl, Or.inl ⟨rfl, rfl⟩⟩
  | ok p =>
  cases hq : takeS p.2 e [10] with
  | error w =>
    rw [show groupS l e = .error w from by simp only [groupS, ht, hq]]
    refine pcall_of (news := [3, 4]) cxOK Tryz.func123 rfl Tryz.ntmps123 rfl rfl rfl (by decide) ?_
    repeat' ((conv => whnf); first | refine aB rfl ?_ | refine sY rfl ?_ | refine sN rfl ?_ | refine sM (fun _ => ?_) (fun _ => ?_))
    all_goals (conv => whnf)
    refine ScopeW.straight ?_
    repeat' ((conv => whnf); first | refine aB rfl ?_ | refine sY rfl ?_ | refine sN rfl ?_ | refine sM (fun _ => ?_) (fun _ => ?_))
    all_goals (conv => whnf)
    refine callM (takeOk ht (by decide)) ⟨rfl, trivial⟩ rfl ?_
    repeat' ((conv => whnf); first | refine aB rfl ?_ | refine sY rfl ?_ | refine sN rfl ?_ | refine sM (fun _ => ?_) (fun _ => ?_))
    all_goals (conv => whnf)
    refine callM (takeBad hq (by decide)) ⟨rfl, trivial⟩ rfl ?_
    conv => whnf
    exact ⟨_, rfl, Or.inl ⟨rfl, rfl⟩⟩
  | ok q =>
  have hpl := takeS_len ht
  have hql := takeS_len hq
  rw [show groupS l e = groupGo (q.2.length + 1) p.1 q.2 e [] from by simp only [groupS, ht, hq]]
  obtain ⟨left, p2⟩ := p
  simp only at hpl hql hq ⊢
  generalize hR : groupGo (q.2.length + 1) left q.2 e [] = R
  refine pcall_of (news := [3, 4]) cxOK Tryz.func123 rfl Tryz.ntmps123 rfl rfl rfl (by decide) ?_
  repeat' ((conv => whnf); first | refine aB rfl ?_ | refine sY rfl ?_ | refine sN rfl ?_ | refine sM (fun _ => ?_) (fun _ => ?_))
  all_goals (conv => whnf)
  refine ScopeW.loop (ι := GrSt) 0 (fun s => (∃ n, groupGo n left s.l e s.acc = R ∧ s.l.length < n) ∧ s.l.length + s.acc.length ≤ 4000) (fun s => s.l.length)
    (fun s => [(0, .ref 1000 0), (2, .row 2 s.acc.length), (3, .ref 3 0)]) (fun s => (2, .row 143 5 (s.acc.map prodCells)) :: (3, .cells (refCells left)) :: yrM s.l e) rfl ?_ ?_
  · repeat' ((conv => whnf); first | refine aB rfl ?_ | refine sY rfl ?_ | refine sN rfl ?_ | refine sM (fun _ => ?_) (fun _ => ?_))
    all_goals (conv => whnf)
    refine callM (takeOk ht (by decide)) ⟨rfl, trivial⟩ rfl ?_
    repeat' ((conv => whnf); first | refine aB rfl ?_ | refine sY rfl ?_ | refine sN rfl ?_ | refine sM (fun _ => ?_) (fun _ => ?_))
    all_goals (conv => whnf)
    refine callM (takeOk hq (by decide)) ⟨rfl, trivial⟩ rfl ?_
    repeat' ((conv => whnf); first | refine aB rfl ?_ | refine sY rfl ?_ | refine sN rfl ?_ | refine sM (fun _ => ?_) (fun _ => ?_))
    all_goals (conv => whnf)
    refine GotoG.first ⟨q.2, []⟩ [⟨2, 143, 5, 2⟩] ⟨⟨q.2.length + 1, hR, Nat.lt_succ_self _⟩, ?_⟩ ⟨rfl, rfl, ⟨rfl, rfl, rfl, trivial⟩, rfl, rfl, rfl, trivial⟩
    simp only [List.length_nil]; omega
  rintro ⟨l', acc⟩ ⟨⟨n, h1, h2⟩, h3⟩
  simp only at h1 h2 h3
  obtain ⟨n, rfl⟩ : ∃ k, n = k + 1 := ⟨n - 1, by omega⟩
  have hrl := refsS_len l'
  repeat' ((conv => whnf); first | refine aB rfl ?_ | refine sY rfl ?_ | refine sN rfl ?_ | refine sM (fun _ => ?_) (fun _ => ?_))
  all_goals (conv => whnf)
  refine callM (yaccRefs l' e (by omega)) ⟨rfl, trivial⟩ rfl ?_
  repeat' ((conv => whnf); first | refine aB rfl ?_ | refine sY rfl ?_ | refine sN rfl ?_ | refine sM (fun _ => ?_) (fun _ => ?_))
  all_goals (conv => whnf)
  refine ⟨rfl, ?_⟩
  repeat' ((conv => whnf); first | refine aB rfl ?_ | refine sY rfl ?_ | refine sN rfl ?_ | refine sM (fun _ => ?_) (fun _ => ?_))
  all_goals (conv => whnf)
  refine callM (yaccNext (refsS l').2 e [8] (by decide)) ⟨rfl, trivial⟩ rfl ?_
  repeat' ((conv => whnf); first | refine aB rfl ?_ | refine sY rfl ?_ | refine sN rfl ?_ | refine sM (fun _ => ?_) (fun _ => ?_))
  all_goals (conv => whnf)
  · rename_i h8
    obtain ⟨t, r, er, g3, g4⟩ := nextS_take (e := e) h8
    have hl8 : r.length + 1 = (refsS l').2.length := by rw [er]; rfl
    refine callM (takeOk (p := (refOf t, r)) g3 (by decide)) ⟨rfl, trivial⟩ rfl ?_
    repeat' ((conv => whnf); first | refine aB rfl ?_ | refine sY rfl ?_ | refine sN rfl ?_ | refine sM (fun _ => ?_) (fun _ => ?_))
    all_goals (conv => whnf)
    cases hp0 : takeS r e [1, 2] with
    | error w =>
      have hp : precS (refsS l').2 e = .error w := by simp only [precS, h8, g3, hp0]
      obtain rfl : R = .error w := by rw [← h1]; simp only [groupGo, hp]
      refine callM (takeBad hp0 (by decide)) ⟨rfl, trivial⟩ rfl ?_
      conv => whnf
      exact ⟨_, rfl, Or.inl ⟨rfl, rfl⟩⟩
    | ok pp =>
      have hppl := takeS_len hp0
      have hp : precS (refsS l').2 e = .ok pp := by simp only [precS, h8, g3, hp0]
      refine callM (takeOk hp0 (by decide)) ⟨rfl, trivial⟩ rfl ?_
      repeat' ((conv => whnf); first | refine aB rfl ?_ | refine sY rfl ?_ | refine sN rfl ?_ | refine sM (fun _ => ?_) (fun _ => ?_))
      all_goals (conv => whnf)
      have ha : (acc ++ [ProdS.mk left (refsS l').1 pp.1]).length = acc.length + 1 := by simp
      refine AppG.row1 ((acc ++ [ProdS.mk left (refsS l').1 pp.1]).map prodCells) (prod_len _).symm rfl ?_ (by decide) ⟨rfl, ?_, ?_⟩
      · rw [prod_len]; simp only; omega
      · rw [List.map_append]; rfl
      repeat' ((conv => whnf); first | refine aB rfl ?_ | refine sY rfl ?_ | refine sN rfl ?_ | refine sM (fun _ => ?_) (fun _ => ?_))
      all_goals (conv => whnf)
      refine callM (yaccNext pp.2 e [11] (by decide)) ⟨rfl, trivial⟩ rfl ?_
      repeat' ((conv => whnf); first | refine aB rfl ?_ | refine sY rfl ?_ | refine sN rfl ?_ | refine sM (fun _ => ?_) (fun _ => ?_))
      all_goals (conv => whnf)
      · rename_i hn
        obtain ⟨t1, r1, e1, g1, g2⟩ := nextS_take (e := e) hn
        refine callM (takeOk (p := (refOf t1, r1)) g1 (by decide)) ⟨rfl, trivial⟩ rfl ?_
        have hl1 : r1.length + 1 = pp.2.length := by rw [e1]; rfl
        repeat' ((conv => whnf); first | refine aB rfl ?_ | refine sY rfl ?_ | refine sN rfl ?_ | refine sM (fun _ => ?_) (fun _ => ?_))
        all_goals (conv => whnf)
        refine GotoG.again ⟨r1, acc ++ [ProdS.mk left (refsS l').1 pp.1]⟩ ⟨⟨n, ?_, ?_⟩, ?_⟩ ?_ ⟨⟨rfl, congrArg (D.row 2) ha.symm, rfl, trivial⟩, rfl, rfl, rfl, trivial⟩
        · rw [← h1]; simp only [groupGo, hp, hn, g1]
        all_goals simp only
        all_goals omega
      · rename_i hn
        cases hq : takeS pp.2 e [12] with
        | error w =>
          obtain rfl : R = .error w := by rw [← h1]; simp only [groupGo, hp, hn, hq]
          refine callM (takeBad hq (by decide)) ⟨rfl, trivial⟩ rfl ?_
          conv => whnf
          exact ⟨_, rfl, Or.inl ⟨rfl, rfl⟩⟩
        | ok q =>
          obtain rfl : R = .ok (acc ++ [ProdS.mk left (refsS l').1 pp.1], q.2) := by rw [← h1]; simp only [groupGo, hp, hn, hq]
          refine callM (takeOk hq (by decide)) ⟨rfl, trivial⟩ rfl ?_
          repeat' ((conv => whnf); first | refine aB rfl ?_ | refine sY rfl ?_ | refine sN rfl ?_ | refine sM (fun _ => ?_) (fun _ => ?_))
          all_goals (conv => whnf)
          refine ⟨Or.inl ⟨congrArg (D.row 2) ha.symm, rfl⟩, rfl, ⟨Or.inl ⟨rfl, rfl⟩, Or.inl ⟨rfl, rfl⟩, trivial⟩, trivial⟩
  · rename_i h8
    have hp : precS (refsS l').2 e = .ok (⟨[], none⟩, (refsS l').2) := by simp only [precS, h8]
    repeat' ((conv => whnf); first | refine aB rfl ?_ | refine sY rfl ?_ | refine sN rfl ?_ | refine sM (fun _ => ?_) (fun _ => ?_))
    all_goals (conv => whnf)
    have ha : (acc ++ [ProdS.mk left (refsS l').1 ⟨[], none⟩]).length = acc.length + 1 := by simp
    refine AppG.row1 ((acc ++ [ProdS.mk left (refsS l').1 ⟨[], none⟩]).map prodCells) (prod_len _).symm rfl ?_ (by decide) ⟨rfl, ?_, ?_⟩
    · rw [prod_len]; simp only; omega
    · rw [List.map_append]; rfl
    repeat' ((conv => whnf); first | refine aB rfl ?_ | refine sY rfl ?_ | refine sN rfl ?_ | refine sM (fun _ => ?_) (fun _ => ?_))
    all_goals (conv => whnf)
    refine callM (yaccNext (refsS l').2 e [11] (by decide)) ⟨rfl, trivial⟩ rfl ?_
    repeat' ((conv => whnf); first | refine aB rfl ?_ | refine sY rfl ?_ | refine sN rfl ?_ | refine sM (fun _ => ?_) (fun _ => ?_))
    all_goals (conv => whnf)
    · rename_i hn
      obtain ⟨t1, r1, e1, g1, g2⟩ := nextS_take (e := e) hn
      refine callM (takeOk (p := (refOf t1, r1)) g1 (by decide)) ⟨rfl, trivial⟩ rfl ?_
      have hl1 : r1.length + 1 = (refsS l').2.length := by rw [e1]; rfl
      repeat' ((conv => whnf); first | refine aB rfl ?_ | refine sY rfl ?_ | refine sN rfl ?_ | refine sM (fun _ => ?_) (fun _ => ?_))
      all_goals (conv => whnf)
      refine GotoG.again ⟨r1, acc ++ [ProdS.mk left (refsS l').1 ⟨[], none⟩]⟩ ⟨⟨n, ?_, ?_⟩, ?_⟩ ?_ ⟨⟨rfl, congrArg (D.row 2) ha.symm, rfl, trivial⟩, rfl, rfl, rfl, trivial⟩
      · rw [← h1]; simp only [groupGo, hp, hn, g1]
      all_goals simp only
      all_goals omega
    · rename_i hn
      cases hq : takeS (refsS l').2 e [12] with
      | error w =>
        obtain rfl : R = .error w := by rw [← h1]; simp only [groupGo, hp, hn, hq]
        refine callM (takeBad hq (by decide)) ⟨rfl, trivial⟩ rfl ?_
        conv => whnf
        exact ⟨_, rfl, Or.inl ⟨rfl, rfl⟩⟩
      | ok q =>
        obtain rfl : R = .ok (acc ++ [ProdS.mk left (refsS l').1 ⟨[], none⟩], q.2) := by rw [← h1]; simp only [groupGo, hp, hn, hq]
        refine callM (takeOk hq (by decide)) ⟨rfl, trivial⟩ rfl ?_
        repeat' ((conv => whnf); first | refine aB rfl ?_ | refine sY rfl ?_ | refine sN rfl ?_ | refine sM (fun _ => ?_) (fun _ => ?_))
        all_goals (conv => whnf)
        refine ⟨Or.inl ⟨congrArg (D.row 2) ha.symm, rfl⟩, rfl, ⟨Or.inl ⟨rfl, rfl⟩, Or.inl ⟨rfl, rfl⟩, trivial⟩, trivial⟩
end Tryz
end Go.Dm
