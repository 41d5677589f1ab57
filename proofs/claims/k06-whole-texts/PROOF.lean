import PyProof.Rows.All
import Wide.All
import OpenK.AllK
import Wide.FinOn
import HandS.ForMost
import HandS.Deep
import KE.KeyNested
import PyProof.ReprRoads
import HandS.TupSets
import HandS.OwnEq
import HandS.ClsMeth
import KE.KCallOwn
import PyProof.InstEq
import PySem.Challenge.RW_timesfloor_k06_whole_texts_of_machines
import HandS.Conv
import HandS.IsInst
import HandS.CallLocal
import HandS.Codes
import HandS.Walk
import HandS.FStr
import HandS.NoneIn
import HandS.Defaults
import HandS.Star
set_option Elab.async false
set_option maxRecDepth 100000
set_option maxHeartbeats 4000000
/-! KA: numbers, pieces, their data, their texts. Plain mathematics. -/
namespace K6
open PySem L2

/-! ### data made of bounded whole numbers and tuples -/
mutual
/-- whole numbers up to a million either way, and tuples of such -/
def nm : PyData → Bool
  | .int i => decide (i.natAbs ≤ 1000000)
  | .tuple ds => nmAll ds
  | .none | .bool _ | .str _ | .list _ | .dict _ => false
def nmAll : List PyData → Bool
  | [] => true
  | d :: ds => nm d && nmAll ds
end
theorem nmAll_iff : ∀ {ds : List PyData}, nmAll ds = true ↔ ∀ d ∈ ds, nm d = true
  | [] => by simp [nmAll]
  | d :: ds => by
    rw [nmAll, Bool.and_eq_true, nmAll_iff]
    simp
mutual
theorem nm_lay : ∀ d : PyData, nm d = true → d.canLay0 = true
  | .int i, _ => by simp only [PyData.canLay0]
  | .tuple ds, h => by
    simp only [PyData.canLay0]
    exact nm_layAll ds (by simpa only [nm] using h)
  | .none, h | .bool _, h | .str _, h | .list _, h | .dict _, h => by simp [nm] at h
theorem nm_layAll : ∀ ds : List PyData, nmAll ds = true → PyData.canLayAll0 ds = true
  | [], _ => by simp only [PyData.canLayAll0]
  | d :: ds, h => by
    rw [nmAll, Bool.and_eq_true] at h
    rw [PyData.canLayAll0, nm_lay d h.1, nm_layAll ds h.2]
    rfl
end
mutual
theorem nm_shows : ∀ d : PyData, nm d = true → d.showable = true
  | .int i, h => by
    have h1 : i.natAbs ≤ 1000000 := by simpa [nm] using h
    simp only [PyData.showable]
    refine decide_eq_true ?_
    rcases Nat.eq_zero_or_pos i.natAbs with e | e
    · rw [e]; decide
    · have h2 : i.natAbs.log2 < 20 := (Nat.log2_lt (by omega)).mpr (by omega)
      omega
  | .tuple ds, h => by
    simp only [PyData.showable]
    exact nm_showsAll ds (by simpa only [nm] using h)
  | .none, h | .bool _, h | .str _, h | .list _, h | .dict _, h => by simp [nm] at h
theorem nm_showsAll : ∀ ds : List PyData, nmAll ds = true → PyData.showableAll ds = true
  | [], _ => by simp only [PyData.showableAll]
  | d :: ds, h => by
    rw [nmAll, Bool.and_eq_true] at h
    rw [PyData.showableAll, nm_shows d h.1, nm_showsAll ds h.2]
    rfl
end
mutual
theorem nm_eqv : ∀ d e : PyData, nm d = true → nm e = true → PyData.eqv d e = true → d = e
  | .int i, .int j, _, _, h => by
    have : i = j := by simpa [PyData.eqv] using h
    rw [this]
  | .tuple ds, .tuple es, h1, h2, h => by
    have := nm_eqvAll ds es (by simpa only [nm] using h1) (by simpa only [nm] using h2) (by simpa only [PyData.eqv] using h)
    rw [this]
  | .int _, .tuple _, _, _, h => by simp [PyData.eqv] at h
  | .tuple _, .int _, _, _, h => by simp [PyData.eqv] at h
  | .none, _, h, _, _ | .bool _, _, h, _, _ | .str _, _, h, _, _ | .list _, _, h, _, _ | .dict _, _, h, _, _ => by simp [nm] at h
  | .int _, .none, _, h, _ | .int _, .bool _, _, h, _ | .int _, .str _, _, h, _ | .int _, .list _, _, h, _ | .int _, .dict _, _, h, _ => by simp [nm] at h
  | .tuple _, .none, _, h, _ | .tuple _, .bool _, _, h, _ | .tuple _, .str _, _, h, _ | .tuple _, .list _, _, h, _ | .tuple _, .dict _, _, h, _ => by simp [nm] at h
theorem nm_eqvAll : ∀ ds es : List PyData, nmAll ds = true → nmAll es = true → PyData.eqvAll ds es = true → ds = es
  | [], [], _, _, _ => rfl
  | [], _ :: _, _, _, h => by simp [PyData.eqvAll] at h
  | _ :: _, [], _, _, h => by simp [PyData.eqvAll] at h
  | d :: ds, e :: es, h1, h2, h => by
    rw [nmAll, Bool.and_eq_true] at h1 h2
    rw [PyData.eqvAll, Bool.and_eq_true] at h
    rw [nm_eqv d e h1.1 h2.1 h.1, nm_eqvAll ds es h1.2 h2.2 h.2]
end
mutual
theorem eqv_self : ∀ d : PyData, nm d = true → PyData.eqv d d = true
  | .int i, _ => by simp [PyData.eqv]
  | .tuple ds, h => by
    simp only [PyData.eqv]
    exact eqvAll_self ds (by simpa only [nm] using h)
  | .none, h | .bool _, h | .str _, h | .list _, h | .dict _, h => by simp [nm] at h
theorem eqvAll_self : ∀ ds : List PyData, nmAll ds = true → PyData.eqvAll ds ds = true
  | [], _ => by simp only [PyData.eqvAll]
  | d :: ds, h => by
    rw [nmAll, Bool.and_eq_true] at h
    rw [PyData.eqvAll, eqv_self d h.1, eqvAll_self ds h.2]
    rfl
end

/-! ### the key that such data makes -/
mutual
def nkey : PyData → NestedKey
  | .int i => .num i
  | .tuple ds => .tup (nkeys ds)
  | .none | .bool _ | .str _ | .list _ | .dict _ => .none
def nkeys : List PyData → List NestedKey
  | [] => []
  | d :: ds => nkey d :: nkeys ds
end
mutual
theorem nkey_inj : ∀ d e : PyData, nm d = true → nm e = true → nkey d = nkey e → d = e
  | .int i, .int j, _, _, h => by
    simp only [nkey, NestedKey.num.injEq] at h
    rw [h]
  | .tuple ds, .tuple es, h1, h2, h => by
    simp only [nkey, NestedKey.tup.injEq] at h
    rw [nkeys_inj ds es (by simpa only [nm] using h1) (by simpa only [nm] using h2) h]
  | .int _, .tuple _, _, _, h => by simp [nkey] at h
  | .tuple _, .int _, _, _, h => by simp [nkey] at h
  | .none, _, h, _, _ | .bool _, _, h, _, _ | .str _, _, h, _, _ | .list _, _, h, _, _ | .dict _, _, h, _, _ => by simp [nm] at h
  | .int _, .none, _, h, _ | .int _, .bool _, _, h, _ | .int _, .str _, _, h, _ | .int _, .list _, _, h, _ | .int _, .dict _, _, h, _ => by simp [nm] at h
  | .tuple _, .none, _, h, _ | .tuple _, .bool _, _, h, _ | .tuple _, .str _, _, h, _ | .tuple _, .list _, _, h, _ | .tuple _, .dict _, _, h, _ => by simp [nm] at h
theorem nkeys_inj : ∀ ds es : List PyData, nmAll ds = true → nmAll es = true → nkeys ds = nkeys es → ds = es
  | [], [], _, _, _ => rfl
  | [], _ :: _, _, _, h => by simp [nkeys] at h
  | _ :: _, [], _, _, h => by simp [nkeys] at h
  | d :: ds, e :: es, h1, h2, h => by
    rw [nmAll, Bool.and_eq_true] at h1 h2
    simp only [nkeys, List.cons.injEq] at h
    rw [nkey_inj d e h1.1 h2.1 h.1, nkeys_inj ds es h1.2 h2.2 h.2]
end
mutual
theorem nkey_depth : ∀ d : PyData, nm d = true → (nkey d).depth = d.depth
  | .int i, _ => by simp only [nkey, NestedKey.depth, PyData.depth]
  | .tuple ds, h => by
    simp only [nkey, NestedKey.depth, PyData.depth]
    rw [nkeys_depth ds (by simpa only [nm] using h)]
  | .none, h | .bool _, h | .str _, h | .list _, h | .dict _, h => by simp [nm] at h
theorem nkeys_depth : ∀ ds : List PyData, nmAll ds = true → NestedKey.depthAll (nkeys ds) = PyData.depthAll ds
  | [], _ => by simp only [nkeys, NestedKey.depthAll, PyData.depthAll]
  | d :: ds, h => by
    rw [nmAll, Bool.and_eq_true] at h
    simp only [nkeys, NestedKey.depthAll, PyData.depthAll]
    rw [nkey_depth d h.1, nkeys_depth ds h.2]
end
mutual
theorem nkey_is {h : Heap} : ∀ (d : PyData) (u : Value) (as : List Addr), nm d = true → Reads h u d as → NestedIs h (nkey d) u
  | .int i, u, as, _, r => by
    cases r
    simp only [nkey]
    exact .int _ _
  | .tuple ds, u, as, hd, r => by
    cases r with
    | tuple h1 h2 h3 h4 =>
      simp only [nkey]
      exact .tup h1 h2 h3 (nkeys_is ds _ _ (by simpa only [nm] using hd) h4)
  | .none, _, _, h, _ | .bool _, _, _, h, _ | .str _, _, _, h, _ | .list _, _, _, h, _ | .dict _, _, _, h, _ => by simp [nm] at h
theorem nkeys_is {h : Heap} : ∀ (ds : List PyData) (us : List Value) (as : List Addr), nmAll ds = true → ReadsAll h us ds as → NestedAll h (nkeys ds) us
  | [], us, as, _, r => by
    cases r
    simp only [nkeys]
    exact .nil
  | d :: ds, us, as, hd, r => by
    rw [nmAll, Bool.and_eq_true] at hd
    cases r with
    | cons h1 h2 =>
      simp only [nkeys]
      exact .cons (nkey_is d _ _ hd.1 h1) (nkeys_is ds _ _ hd.2 h2)
end

/-! ### how long such data is as repr writes it -/
mutual
def wt : PyData → Nat
  | .int _ => 8
  | .tuple ds => wtAll ds + 3
  | .none | .bool _ | .str _ | .list _ | .dict _ => 0
def wtAll : List PyData → Nat
  | [] => 0
  | d :: ds => wt d + 2 + wtAll ds
end

/-! ### numbers, pieces -/
inductive Num where
  | whole (n : Int)
  | frac (a b : Int)
  deriving DecidableEq
def Num.dat : Num → PyData
  | .whole n => .int n
  | .frac a b => .tuple [.int a, .int b]
def Num.Ok : Num → Prop
  | .whole n => n.natAbs ≤ 1000000
  | .frac a b => a.natAbs ≤ 1000000 ∧ 2 ≤ b ∧ b ≤ 1000 ∧ Nat.gcd a.natAbs b.natAbs = 1
structure Piece where
  c : List Int
  rows : List (List Num)
  s : List Num
  deriving DecidableEq
def rowD (r : List Num) : PyData := .tuple (r.map Num.dat)
def Piece.dat (p : Piece) : PyData := .tuple [.tuple (p.c.map .int), .tuple (p.rows.map rowD), rowD p.s]
structure Piece.Ok (w : Nat) (p : Piece) : Prop where
  cl : p.c.length = w
  cb : ∀ x ∈ p.c, -1000 ≤ x ∧ x ≤ 1000
  rl : p.rows.length = w
  rw : ∀ r ∈ p.rows, r.length = w ∧ ∀ q ∈ r, q.Ok
  sl : p.s.length = w
  so : ∀ q ∈ p.s, q.Ok

theorem Num.Ok.nm {q : Num} (h : q.Ok) : K6.nm q.dat = true := by
  cases q with
  | whole n =>
    simp only [Num.dat, K6.nm]
    exact decide_eq_true h
  | frac a b =>
    obtain ⟨h1, h2, h3, _⟩ := h
    simp only [Num.dat, K6.nm, nmAll, Bool.and_eq_true, Bool.and_true]
    exact ⟨decide_eq_true h1, decide_eq_true (by omega)⟩
theorem row_nm {r : List Num} (h : ∀ q ∈ r, q.Ok) : nm (rowD r) = true := by
  simp only [rowD, nm]
  rw [nmAll_iff]
  intro d hd
  obtain ⟨q, hq, rfl⟩ := List.mem_map.mp hd
  exact (h q hq).nm
theorem Piece.Ok.nm {w : Nat} {p : Piece} (h : p.Ok w) : K6.nm p.dat = true := by
  simp only [Piece.dat, K6.nm, nmAll, Bool.and_eq_true, Bool.and_true]
  refine ⟨?_, ?_, row_nm h.so⟩
  · rw [nmAll_iff]
    intro d hd
    obtain ⟨x, hx, rfl⟩ := List.mem_map.mp hd
    have := h.cb x hx
    simp only [K6.nm]
    exact decide_eq_true (by omega)
  · rw [nmAll_iff]
    intro d hd
    obtain ⟨r, hr, rfl⟩ := List.mem_map.mp hd
    exact row_nm (h.rw r hr).2
theorem Num.dat_inj {a b : Num} (h : a.dat = b.dat) : a = b := by
  cases a <;> cases b <;> simp_all [Num.dat]
theorem map_inj {α β : Type} {f : α → β} (hf : ∀ a b, f a = f b → a = b) : ∀ {l m : List α}, l.map f = m.map f → l = m
  | [], [], _ => rfl
  | [], _ :: _, h => by simp at h
  | _ :: _, [], h => by simp at h
  | a :: l, b :: m, h => by
    simp only [List.map_cons, List.cons.injEq] at h
    rw [hf a b h.1, map_inj hf h.2]
theorem rowD_inj {r t : List Num} (h : rowD r = rowD t) : r = t := by
  simp only [rowD, PyData.tuple.injEq] at h
  exact map_inj (fun _ _ => Num.dat_inj) h
theorem Piece.dat_inj {p q : Piece} (h : p.dat = q.dat) : p = q := by
  obtain ⟨c, r, s⟩ := p
  obtain ⟨c', r', s'⟩ := q
  simp only [Piece.dat, PyData.tuple.injEq, List.cons.injEq, and_true] at h
  obtain ⟨h1, h2, h3⟩ := h
  have e1 : c = c' := map_inj (fun a b e => by simpa using e) h1
  have e2 : r = r' := map_inj (fun a b e => rowD_inj e) h2
  have e3 : s = s' := rowD_inj h3
  rw [e1, e2, e3]
/-- the data of some pieces, in order -/
abbrev dats (ps : List Piece) : List PyData := ps.map Piece.dat
theorem dats_inj {ps qs : List Piece} (h : dats ps = dats qs) : ps = qs := map_inj (fun _ _ => Piece.dat_inj) h
theorem dats_nm {w : Nat} {ps : List Piece} (h : ∀ p ∈ ps, p.Ok w) : nmAll (dats ps) = true := by
  rw [nmAll_iff]
  intro d hd
  obtain ⟨p, hp, rfl⟩ := List.mem_map.mp hd
  exact (h p hp).nm

/-! ### depths -/
theorem Num.depth_le (q : Num) : q.dat.depth ≤ 1 := by
  cases q <;> simp [Num.dat, PyData.depth, PyData.depthAll]
theorem depthAll_le {n : Nat} : ∀ {ds : List PyData}, (∀ d ∈ ds, d.depth ≤ n) → PyData.depthAll ds ≤ n
  | [], _ => by simp [PyData.depthAll]
  | d :: ds, h => by
    simp only [PyData.depthAll]
    exact Nat.max_le.mpr ⟨h d List.mem_cons_self, depthAll_le fun e he => h e (List.mem_cons_of_mem _ he)⟩
theorem row_depth (r : List Num) : (rowD r).depth ≤ 2 := by
  simp only [rowD, PyData.depth]
  have : PyData.depthAll (r.map Num.dat) ≤ 1 := depthAll_le fun d hd => by
    obtain ⟨q, _, rfl⟩ := List.mem_map.mp hd
    exact q.depth_le
  omega
theorem Piece.depth_le (p : Piece) : p.dat.depth ≤ 4 := by
  have h1 : (PyData.tuple (p.c.map .int)).depth ≤ 3 := by
    simp only [PyData.depth]
    have : PyData.depthAll (p.c.map PyData.int) ≤ 0 := depthAll_le fun d hd => by
      obtain ⟨q, _, rfl⟩ := List.mem_map.mp hd
      simp [PyData.depth]
    omega
  have h2 : (PyData.tuple (p.rows.map rowD)).depth ≤ 3 := by
    simp only [PyData.depth]
    have : PyData.depthAll (p.rows.map rowD) ≤ 2 := depthAll_le fun d hd => by
      obtain ⟨q, _, rfl⟩ := List.mem_map.mp hd
      exact row_depth q
    omega
  have h3 : (rowD p.s).depth ≤ 3 := Nat.le_succ_of_le (row_depth p.s)
  have : PyData.depthAll [.tuple (p.c.map .int), .tuple (p.rows.map rowD), rowD p.s] ≤ 3 := depthAll_le fun d hd => by
    simp only [List.mem_cons, List.not_mem_nil, or_false] at hd
    rcases hd with rfl | rfl | rfl <;> assumption
  show PyData.depth (.tuple [.tuple (p.c.map .int), .tuple (p.rows.map rowD), rowD p.s]) ≤ 4
  rw [PyData.depth]
  omega
theorem dats_depth (ps : List Piece) : PyData.depthAll (dats ps) ≤ 4 := depthAll_le fun d hd => by
  obtain ⟨p, _, rfl⟩ := List.mem_map.mp hd
  exact p.depth_le
theorem shaped_of {d : PyData} (h : nm d = true) (hd : d.depth ≤ 64) : SeqAt.shaped d = true := by
  unfold SeqAt.shaped
  rw [nm_lay d h, decide_eq_true hd]
  rfl
theorem Piece.shaped {w : Nat} {p : Piece} (h : p.Ok w) : SeqAt.shaped p.dat = true := shaped_of h.nm (Nat.le_trans p.depth_le (by decide))
theorem lst_shaped {ds : List PyData} (h : nmAll ds = true) (hd : PyData.depthAll ds ≤ 63) : SeqAt.shaped (.list ds) = true := by
  have e1 : (PyData.list ds).canLay0 = true := by
    simp only [PyData.canLay0]
    exact nm_layAll ds h
  have e2 : (PyData.list ds).depth ≤ 64 := by
    simp only [PyData.depth]
    omega
  unfold SeqAt.shaped
  rw [e1, decide_eq_true e2]
  rfl
theorem tup_shaped {ds : List PyData} (h : nmAll ds = true) (hd : PyData.depthAll ds ≤ 63) : SeqAt.shaped (.tuple ds) = true := by
  refine shaped_of ?_ ?_
  · simp only [nm]
    exact h
  · simp only [PyData.depth]
    omega
theorem dats_shapedL {w : Nat} {ps : List Piece} (h : ∀ p ∈ ps, p.Ok w) : SeqAt.shaped (.list (dats ps)) = true := lst_shaped (dats_nm h) (Nat.le_trans (dats_depth ps) (by decide))
theorem dats_shapedT {w : Nat} {ps : List Piece} (h : ∀ p ∈ ps, p.Ok w) : SeqAt.shaped (.tuple (dats ps)) = true := tup_shaped (dats_nm h) (Nat.le_trans (dats_depth ps) (by decide))
/-- == of the pieces' data tells whether they are alike -/
theorem Piece.eqv {w w' : Nat} {p q : Piece} (h : p.Ok w) (h' : q.Ok w') : PyData.eqv p.dat q.dat = decide (p = q) := by
  cases e : PyData.eqv p.dat q.dat with
  | true => exact (decide_eq_true (Piece.dat_inj (nm_eqv _ _ h.nm h'.nm e))).symm
  | false =>
    refine (decide_eq_false fun z => ?_).symm
    subst z
    rw [eqv_self _ h.nm] at e
    cases e
theorem dats_eqv {w w' : Nat} {ps qs : List Piece} (h : ∀ p ∈ ps, p.Ok w) (h' : ∀ p ∈ qs, p.Ok w') : PyData.eqv (.tuple (dats ps)) (.tuple (dats qs)) = decide (ps = qs) := by
  simp only [PyData.eqv]
  cases e : PyData.eqvAll (dats ps) (dats qs) with
  | true => exact (decide_eq_true (dats_inj (nm_eqvAll _ _ (dats_nm h) (dats_nm h') e))).symm
  | false =>
    refine (decide_eq_false fun z => ?_).symm
    subst z
    rw [eqvAll_self _ (dats_nm h)] at e
    cases e
theorem dats_any {w : Nat} {ps : List Piece} {q : Piece} (h : ∀ p ∈ ps, p.Ok w) (hq : q.Ok w) : ((dats ps).any fun z => PyData.eqv z q.dat) = decide (q ∈ ps) := by
  rw [Bool.eq_iff_iff, List.any_eq_true, decide_eq_true_eq]
  constructor
  · rintro ⟨d, hd, e⟩
    obtain ⟨p, hp, rfl⟩ := List.mem_map.mp hd
    rw [Piece.eqv (h p hp) hq, decide_eq_true_eq] at e
    rw [← e]
    exact hp
  · intro hm
    exact ⟨q.dat, List.mem_map.mpr ⟨q, hm, rfl⟩, eqv_self _ hq.nm⟩
theorem dats_keys {w : Nat} {ps : List Piece} (h : ∀ p ∈ ps, p.Ok w) (nd : ps.Nodup) : (ps.map fun p => nkey p.dat).Nodup := by
  have hp : ps.Pairwise (fun a b => nkey a.dat ≠ nkey b.dat) := by
    refine List.Pairwise.imp_of_mem (fun {a b} ha hb hne e => ?_) nd
    exact hne (Piece.dat_inj (nkey_inj _ _ (h a ha).nm (h b hb).nm e))
  exact List.pairwise_map.mpr hp
end K6

set_option maxRecDepth 100000
set_option maxHeartbeats 4000000
/-! KS: a set made of a list or tuple of unlike nested tuples of whole numbers has as many members. -/
namespace K6
open PySem L2
open Sem (wp)

section
variable {P : Program} {w : World} {A : Around} {E : Value → Shared → Prop} {s : Shared}

/-! ### what the set's machine asks of such an item -/
/-- the item u is of no class statement, n levels deep -/
def NoCls (P : Program) (w : World) (n : Nat) (s : Shared) (u : Value) : Prop := ∀ (A : Around) (E : Value → Shared → Prop) (Q : Bool → Shared → Prop), Q false s → wpAny (model P w) A (ofAClassStatement n u) Q E s
/-- its hash hangs on its worth alone -/
def ByVal (P : Program) (w : World) (n : Nat) (s : Shared) (u : Value) : Prop := ∀ (A : Around) (E : Value → Shared → Prop) (Q : Bool → Shared → Prop), Q true s → wpAny (model P w) A (hashByValue n u) Q E s

theorem noCls_tup {a : Addr} {o : Obj} {vs : Array Value} {k n : Nat} (h1 : s.heap.get? a = some o) (h2 : o.cls = .type "tuple") (h3 : o.data = .seq vs k) (hq : ∀ v ∈ vs.toList, NoCls P w n s v) : NoCls P w (n + 1) s (.ref a) := by
  intro A E Q h
  unfold ofAClassStatement
  refine wpAny_bind (wpAny_typeOf (⟨o, h1, h2⟩ : s.TypeIs (.ref a) "tuple") ?_)
  have et : (("tuple" : String) == "tuple") = true := by decide
  simp only [et, if_true, Bool.not_true, Bool.false_eq_true, if_false]
  try refine wpAny_bind (wpAny_pure ?_)
  try simp only [Bool.not_true, Bool.false_eq_true, if_false]
  show wpAny _ _ (seqItems? (.ref a) >>= _) _ _ s
  refine wpAny_bind (wpAny_seqItems h1 h3 ?_)
  dsimp only
  refine wpAny_bind ?_
  show wpAny _ _ (forIn vs _ _) _ _ s
  rw [← Array.forIn_toList]
  refine wpAny_forIn_list _ (fun left acc st => acc.1 = none ∧ st = s ∧ ∀ v ∈ left, NoCls P w n s v) _ ?turn ?last _ _ ⟨rfl, rfl, hq⟩
  case turn =>
    rintro v left acc st ⟨ha, rfl, hall⟩
    refine wpAny_bind (hall v List.mem_cons_self _ _ _ ?_)
    simp only [Bool.false_eq_true, if_false]
    exact wpAny_pure ⟨rfl, rfl, fun z hz => hall z (List.mem_cons_of_mem _ hz)⟩
  case last =>
    rintro ⟨x1, x2⟩ st ⟨ha, rfl, _⟩
    simp only at ha
    subst ha
    exact wpAny_pure h
theorem byVal_tup {a : Addr} {o : Obj} {vs : Array Value} {k n : Nat} (h1 : s.heap.get? a = some o) (h2 : o.cls = .type "tuple") (h3 : o.data = .seq vs k) (hq : ∀ v ∈ vs.toList, ByVal P w n s v) : ByVal P w (n + 1) s (.ref a) := by
  intro A E Q h
  unfold hashByValue
  refine wpAny_bind (wpAny_specialOf (⟨o, h1, h2⟩ : s.TypeIs (.ref a) "tuple") F.slot_tuple_hash.lookup ?_)
  show wpAny _ _ (seqItems? (.ref a) >>= _) _ _ s
  refine wpAny_bind (wpAny_seqItems h1 h3 (wpAny_bind ?_))
  show wpAny _ _ (forIn vs _ _) _ _ s
  rw [← Array.forIn_toList]
  refine wpAny_forIn_list _ (fun left acc st => acc.1 = none ∧ st = s ∧ ∀ v ∈ left, ByVal P w n s v) _ ?turn ?last _ _ ⟨rfl, rfl, hq⟩
  case turn =>
    rintro v left acc st ⟨ha, rfl, hall⟩
    refine wpAny_bind (hall v List.mem_cons_self _ _ _ ?_)
    simp only [Bool.not_true, Bool.false_eq_true, if_false]
    exact wpAny_pure ⟨rfl, rfl, fun z hz => hall z (List.mem_cons_of_mem _ hz)⟩
  case last =>
    rintro ⟨x1, x2⟩ st ⟨ha, rfl, _⟩
    simp only at ha
    subst ha
    exact wpAny_pure h
mutual
theorem nm_noCls : ∀ (d : PyData) (u : Value) (as : List Addr) (n : Nat), nm d = true → Reads s.heap u d as → d.depth ≤ n → NoCls P w n s u
  | .int i, u, as, n, _, r, _ => by
    cases r with
    | int _ t =>
      intro A E Q h
      have e : ofAClassStatement n (.int i t) = pure false := by cases n <;> rfl
      rw [e]
      exact wpAny_pure h
  | .tuple ds, u, as, n, hd, r, hn => by
    cases r with
    | tuple h1 h2 h3 h4 =>
      simp only [PyData.depth] at hn
      cases n with
      | zero => omega
      | succ n => exact noCls_tup h1 h2 h3 (nm_noClsAll ds _ _ n (by simpa only [nm] using hd) h4 (by omega))
  | .none, _, _, _, h, _, _ | .bool _, _, _, _, h, _, _ | .str _, _, _, _, h, _, _ | .list _, _, _, _, h, _, _ | .dict _, _, _, _, h, _, _ => by simp [nm] at h
theorem nm_noClsAll : ∀ (ds : List PyData) (us : List Value) (as : List Addr) (n : Nat), nmAll ds = true → ReadsAll s.heap us ds as → PyData.depthAll ds ≤ n → ∀ u ∈ us, NoCls P w n s u
  | [], us, as, n, _, r, _, u, hu => by
    cases r
    cases hu
  | d :: ds, us, as, n, hd, r, hn, u, hu => by
    rw [nmAll, Bool.and_eq_true] at hd
    simp only [PyData.depthAll] at hn
    cases r with
    | cons h1 h2 =>
      rcases List.mem_cons.mp hu with e | hu
      · rw [e]
        exact nm_noCls d _ _ n hd.1 h1 (by omega)
      · exact nm_noClsAll ds _ _ n hd.2 h2 (by omega) u hu
end
mutual
theorem nm_byVal : ∀ (d : PyData) (u : Value) (as : List Addr) (n : Nat), nm d = true → Reads s.heap u d as → d.depth ≤ n → ByVal P w n s u
  | .int i, u, as, n, _, r, _ => by
    cases r with
    | int _ t =>
      intro A E Q h
      have e : hashByValue n (.int i t) = pure true := by cases n <;> rfl
      rw [e]
      exact wpAny_pure h
  | .tuple ds, u, as, n, hd, r, hn => by
    cases r with
    | tuple h1 h2 h3 h4 =>
      simp only [PyData.depth] at hn
      cases n with
      | zero => omega
      | succ n => exact byVal_tup h1 h2 h3 (nm_byValAll ds _ _ n (by simpa only [nm] using hd) h4 (by omega))
  | .none, _, _, _, h, _, _ | .bool _, _, _, _, h, _, _ | .str _, _, _, _, h, _, _ | .list _, _, _, _, h, _, _ | .dict _, _, _, _, h, _, _ => by simp [nm] at h
theorem nm_byValAll : ∀ (ds : List PyData) (us : List Value) (as : List Addr) (n : Nat), nmAll ds = true → ReadsAll s.heap us ds as → PyData.depthAll ds ≤ n → ∀ u ∈ us, ByVal P w n s u
  | [], us, as, n, _, r, _, u, hu => by
    cases r
    cases hu
  | d :: ds, us, as, n, hd, r, hn, u, hu => by
    rw [nmAll, Bool.and_eq_true] at hd
    simp only [PyData.depthAll] at hn
    cases r with
    | cons h1 h2 =>
      rcases List.mem_cons.mp hu with e | hu
      · rw [e]
        exact nm_byVal d _ _ n hd.1 h1 (by omega)
      · exact nm_byValAll ds _ _ n hd.2 h2 (by omega) u hu
end

/-- the address a bears the item d, a tuple -/
structure Itm (h : Heap) (d : PyData) (a : Addr) : Prop where
  nm : nm d = true
  dp : d.depth ≤ 8
  rd : ∃ as, Reads h (.ref a) d as
abbrev ihash (w : World) (d : PyData) : Int := (nkey d).hash w
theorem Itm.is {h : Heap} {d : PyData} {a : Addr} (i : Itm h d a) : NestedIs h (nkey d) (.ref a) := let ⟨_, r⟩ := i.rd; nkey_is d _ _ i.nm r
theorem Itm.kd {h : Heap} {d : PyData} {a : Addr} (i : Itm h d a) : (nkey d).depth ≤ 8 := by rw [nkey_depth d i.nm]; exact i.dp
/-- asking a search for such an item shows nothing of the table -/
theorem quiet_search {d : PyData} {b : Addr} {Q : Bool → Shared → Prop} (i : Itm s.heap d b) {ys : List Value} (hy : ∀ y ∈ ys, ∃ e c, y = Value.ref c ∧ Itm s.heap e c) (h : Q false s) :
    wpAny (model P w) A (searchCouldBeSeen (.ref b) ys) Q E s := by
  unfold searchCouldBeSeen
  refine wpAny_bind ?_
  refine wpAny_forIn_list _ (fun left acc st => acc.1 = none ∧ st = s ∧ ∀ y ∈ left, ∃ e c, y = Value.ref c ∧ Itm s.heap e c) _ ?turn ?last _ _ ⟨rfl, rfl, hy⟩
  case turn =>
    rintro v left acc st ⟨ha, rfl, hall⟩
    obtain ⟨e, c, rfl, j⟩ := hall v List.mem_cons_self
    have more : ∀ y ∈ left, ∃ e c, y = Value.ref c ∧ Itm st.heap e c := fun z hz => hall z (List.mem_cons_of_mem _ hz)
    obtain ⟨as1, r1⟩ := i.rd
    obtain ⟨as2, r2⟩ := j.rd
    dsimp only
    by_cases hv : (b == c || (carriedByValue (.ref b) && carriedByValue (.ref c))) = true
    · exact wp_if_pos hv (wpAny_pure ⟨rfl, rfl, more⟩)
    · refine wp_if_neg hv (wpAny_bind (quiet_key (prog := P) (w := w) _ _ 8 _ i.is i.kd _ _ _ ?_))
      simp only [Bool.not_true, Bool.false_eq_true, if_false]
      refine wpAny_bind (quiet_key (prog := P) (w := w) _ _ 8 _ j.is j.kd _ _ _ ?_)
      simp only [Bool.not_true, Bool.false_eq_true, if_false]
      refine wpAny_bind (nm_noCls d _ _ 8 i.nm r1 i.dp _ _ _ ?_)
      simp only [Bool.false_eq_true, if_false]
      refine wpAny_bind (nm_noCls e _ _ 8 j.nm r2 j.dp _ _ _ ?_)
      simp only [Bool.false_eq_true, if_false]
      exact wpAny_pure ⟨rfl, rfl, more⟩
  case last =>
    rintro ⟨x1, x2⟩ st ⟨ha, rfl, _⟩
    simp only at ha
    subst ha
    exact wpAny_pure h

/-! ### the set -/
abbrev entry (w : World) (p : Addr × PyData) : Int × Value := (ihash w p.2, Value.ref p.1)
/-- at a stands a set of the items L, in the table's order -/
structure NSet (w : World) (h : Heap) (a : Addr) (L : List (Addr × PyData)) (es : Array (Int × Value)) (ep : Nat) (t : SetTable) : Prop where
  ob : ∃ o, h.get? a = some o ∧ o.ExactSet ∧ o.data = .set es ep t
  rows : es.toList = L.map (entry w)
  tab : TabOk t (L.map fun p => ihash w p.2)
  itm : ∀ p ∈ L, Itm h p.2 p.1
  plain : t.plain = true
  led : w.params.followText "set-order" = true ∨ t.led = true
  room : L.length * 5 < t.mask * 3
  few : L.length < 64
variable {a : Addr} {L : List (Addr × PyData)} {es : Array (Int × Value)} {ep : Nat} {t : SetTable}
theorem size_of_rows (h : es.toList = L.map (entry w)) : es.size = L.length := by
  have e := congrArg List.length h
  rw [Array.length_toList, List.length_map] at e
  exact e
theorem NSet.size (R : NSet w s.heap a L es ep t) : es.size = L.length := size_of_rows R.rows
theorem fits_of (T : TabOk t (L.map fun p => ihash w p.2)) (hs : es.size = L.length) (hm : L.length ≤ t.mask) : t.fits es.size = true := by
  have e := T.sz
  rw [List.length_map] at e
  unfold SetTable.fits SetTable.fill
  rw [T.dm, Bool.and_eq_true, beq_iff_eq, decide_eq_true_eq]
  refine ⟨by omega, ?_⟩
  show t.place.size + 0 ≤ t.mask
  omega
theorem NSet.fits (R : NSet w s.heap a L es ep t) : t.fits es.size = true := fits_of R.tab R.size (by have := R.room; omega)
theorem entry_get (h : es.toList = L.map (entry w)) {i : Nat} {p : Addr × PyData} (hp : L[i]? = some p) : es[i]? = some (entry w p) := by
  rw [← Array.getElem?_toList, h, List.getElem?_map, hp]
  rfl
theorem no_give {t : SetTable} {hs : List Int} (T : TabOk t hs) : ¬ t.gaveWay = true := by
  unfold SetTable.gaveWay
  rw [mask_odd T.mok]
  decide
theorem nth_dummy (m : Nat) : ∀ (n : Nat) (p : SetTable.Probe), p.dummy = none → (nth m p n).dummy = none
  | 0, _, h => h
  | n + 1, p, h => by
    refine nth_dummy m n (adv m p) ?_
    unfold adv
    split <;> exact h

/-- the search for an item that is not in it ends at the first free slot of its way -/
theorem search_free (R : NSet w s.heap a L es ep t) {x : Addr} {d : PyData} (hx : Itm s.heap d x) (hu : A.units + 8 < cLine) (hno : ∀ p ∈ L, p.2 ≠ d) {N : Nat} (hNf : N < 10 * SetTable.turns t.mask)
    (hN : way t.mask (ihash w d) N ∉ t.place.toList) (hNb : ∀ c, c < N → way t.mask (ihash w d) c ∈ t.place.toList) {Q : SetFound → Shared → Prop} (hQ : Q (.free (way t.mask (ihash w d) N) false) s) :
    ∀ (f c : Nat) (stand : Option SetTable.Probe), stand.getD (t.probeStart (ihash w d)) = nth t.mask (t.probeStart (ihash w d)) c → c ≤ N → N - c < f →
      wpAny (model P w) A (setSearchFrom a (.ref x) (ihash w d) true f stand) Q E s := by
  intro f
  induction f with
  | zero => intro c stand _ _ hf; exact absurd hf (Nat.not_lt_zero _)
  | succ f ih =>
    intro c stand hst hc hf
    obtain ⟨o, ho, hex, hd⟩ := R.ob
    rw [setSearchFrom_succ]
    refine wpAny_bind (wpAny_setState_of ho hd R.fits ?_)
    dsimp only
    refine wp_if_neg (no_give R.tab) ?_
    try refine wpAny_bind (wpAny_pure ?_)
    have hj : ∀ q, (nth t.mask (nth t.mask (t.probeStart (ihash w d)) c) q).j = way t.mask (ihash w d) (c + q) := fun q => by
      rw [← nth_add]
      rfl
    have spec := go_spec t R.tab.ris R.tab.dm (fun i => (es[i]?.map (·.1)).getD 0) (ihash w d) (10 * SetTable.turns t.mask) (N - c) (nth t.mask (t.probeStart (ihash w d)) c) (nth_dummy _ _ _ rfl) (by omega)
      (fun q hq => by rw [hj]; exact hNb _ (by omega)) (by rw [hj, Nat.add_sub_cancel' hc]; exact hN)
    rcases spec with ⟨q, i, hq, hi, hh, _, hpr⟩ | ⟨_, hpr⟩
    · -- one of the same hash stands on the way: another item
      have hpr' : t.probe (fun i => (es[i]?.map (·.1)).getD 0) (ihash w d) (stand.getD (t.probeStart (ihash w d))) = some (.candidate (way t.mask (ihash w d) (c + q)) i (nth t.mask (t.probeStart (ihash w d)) (c + (q + 1)))) := by
        rw [hst, ← hj, nth_add]
        exact hpr
      rw [hpr']
      dsimp only
      rw [hj] at hi
      have hil : i < L.length := by
        have e1 := (List.getElem?_eq_some_iff.mp hi).1
        have e2 := R.tab.sz
        rw [List.length_map] at e2
        rw [Array.length_toList, e2] at e1
        exact e1
      obtain ⟨p, hp⟩ : ∃ p, L[i]? = some p := ⟨_, List.getElem?_eq_getElem hil⟩
      have hpm : p ∈ L := List.mem_of_getElem? hp
      have hpi := R.itm p hpm
      have go : wpAny (model P w) A (searchRest a (.ref x) (ihash w d) true f es t (way t.mask (ihash w d) (c + q)) i (nth t.mask (t.probeStart (ihash w d)) (c + (q + 1)))) Q E s := by
        unfold searchRest
        rw [entry_get R.rows hp]
        dsimp only
        have ne : NestedKey.beq (nkey p.2) (nkey d) = false := by
          rw [← NestedKey.decide_eq]
          exact decide_eq_false fun e => hno p hpm (nkey_inj _ _ hpi.nm hx.nm e)
        have hk1 := hpi.kd
        have hk2 := hx.kd
        refine wpAny_bind (wpAny_holding (eqAt_key (nkey p.2) (nkey d) A s _ _ hpi.is hx.is (by omega) _ _ _ _ ?_))
        rw [ne]
        refine wpAny_bind (wpAny_setState_of ho hd R.fits ?_)
        dsimp only
        refine wp_if_neg (by decide) ?_
        try refine wpAny_bind (wpAny_pure ?_)
        rw [sameMem]
        dsimp only
        have hsl : t.slot (way t.mask (ihash w d) (c + q)) = .live i := slot_live R.tab.ris hi
        simp only [if_true, hsl, entry_get R.rows hp]
        refine wpAny_bind (wpAny_isSame_ref_self (wpAny_bind (wpAny_pure ?_)))
        simp only [if_true]
        refine wp_if_neg (by decide) ?_
        exact ih (c + (q + 1)) _ rfl (by omega) (by omega)
      by_cases hl : t.led = true
      · refine wp_if_neg (by simp [hl]) ?_
        try refine wpAny_bind (wpAny_pure ?_)
        exact go
      · refine wp_if_pos (by simp [hl]) (wpAny_bind (quiet_search hx (fun y hy => ?_) ?_))
        · obtain ⟨e, he, rfl⟩ := List.mem_map.mp hy
          have he2 : e ∈ es.toList := by
            have z : e ∈ es ∧ e.1 = ihash w d := by simpa using he
            simpa using z.1
          rw [R.rows] at he2
          obtain ⟨p2, hp2, rfl⟩ := List.mem_map.mp he2
          exact ⟨p2.2, p2.1, rfl, R.itm p2 hp2⟩
        · refine wp_if_neg (by decide) ?_
          try refine wpAny_bind (wpAny_pure ?_)
          exact go
    · -- the free slot
      have hpr' : t.probe (fun i => (es[i]?.map (·.1)).getD 0) (ihash w d) (stand.getD (t.probeStart (ihash w d))) = some (.empty (way t.mask (ihash w d) N) none) := by
        have e2 : way t.mask (ihash w d) N = (nth t.mask (nth t.mask (t.probeStart (ihash w d)) c) (N - c)).j := by
          rw [hj, Nat.add_sub_cancel' hc]
        rw [hst, e2]
        exact hpr
      rw [hpr']
      dsimp only
      exact wpAny_pure hQ
end
end K6

set_option maxRecDepth 100000
set_option maxHeartbeats 8000000
/-! KS2: adding; set(..) of a list or a tuple; len of it. -/
namespace K6
open PySem PySem.Spec PyProof.Rows L2
open Sem (wp)

/-! ### an item stays where its tuples stay -/
mutual
theorem reads_keep {h h' : Heap} (hk : ∀ b o, h.get? b = some o → o.cls = .type "tuple" → h'.get? b = some o) : ∀ (d : PyData) (u : Value) (as : List Addr), nm d = true → Reads h u d as → Reads h' u d as
  | .int i, u, as, _, r => by
    cases r
    exact .int _ _
  | .tuple ds, u, as, hd, r => by
    cases r with
    | tuple h1 h2 h3 h4 => exact .tuple (hk _ _ h1 h2) h2 h3 (reads_keepAll hk ds _ _ (by simpa only [nm] using hd) h4)
  | .none, _, _, h, _ | .bool _, _, _, h, _ | .str _, _, _, h, _ | .list _, _, _, h, _ | .dict _, _, _, h, _ => by simp [nm] at h
theorem reads_keepAll {h h' : Heap} (hk : ∀ b o, h.get? b = some o → o.cls = .type "tuple" → h'.get? b = some o) : ∀ (ds : List PyData) (us : List Value) (as : List Addr), nmAll ds = true → ReadsAll h us ds as → ReadsAll h' us ds as
  | [], us, as, _, r => by
    cases r
    exact .nil
  | d :: ds, us, as, hd, r => by
    rw [nmAll, Bool.and_eq_true] at hd
    cases r with
    | cons h1 h2 => exact .cons (reads_keep hk d _ _ hd.1 h1) (reads_keepAll hk ds _ _ hd.2 h2)
end
theorem Itm.keep {h h' : Heap} {d : PyData} {a : Addr} (i : Itm h d a) (hk : ∀ b o, h.get? b = some o → o.cls = .type "tuple" → h'.get? b = some o) : Itm h' d a :=
  ⟨i.nm, i.dp, let ⟨as, r⟩ := i.rd; ⟨as, reads_keep hk d _ as i.nm r⟩⟩
/-- a change of the set alone -/
theorem Itm.but {h h' : Heap} {d : PyData} {a b : Addr} {o : Obj} (i : Itm h d b) (ho : h.get? a = some o) (hx : o.ExactSet) (hs : Heap.SameBut a h h') : Itm h' d b := by
  refine i.keep fun c u hu hc => (hs.2 c ?_).trans hu
  rintro rfl
  rw [ho] at hu
  cases hu
  have e := hx.1
  rw [hc] at e
  simp at e

section
variable {P : Program} {w : World} {A : Around} {E : Value → Shared → Prop} {s : Shared} {a : Addr} {L : List (Addr × PyData)} {es : Array (Int × Value)} {ep : Nat} {t : SetTable}

/-- the table's order of some rows -/
theorem rows_order (es : Array (Int × Value)) (order : List Nat) (hr : es.toList = L.map (entry w)) (hp : order.Perm (List.range L.length)) :
    ∃ M : List (Addr × PyData), order.filterMap (fun i => es[i]?) = M.map (entry w) ∧ M.Perm L ∧ (M.map fun p => ihash w p.2) = order.map fun i => (es.map (·.1)).getD i 0 := by
  have hes := size_of_rows hr
  have low : ∀ i ∈ order, i < L.length := fun i hi => List.mem_range.mp (hp.mem_iff.mp hi)
  have look : ∀ i, i < L.length → ∃ p, L[i]? = some p ∧ es[i]? = some (entry w p) := fun i hi =>
    ⟨L[i], List.getElem?_eq_getElem hi, entry_get hr (List.getElem?_eq_getElem hi)⟩
  have body : ∀ l : List Nat, (∀ i ∈ l, i < L.length) → l.filterMap (fun i => es[i]?) = (l.filterMap fun i => L[i]?).map (entry w) ∧ ((l.filterMap fun i => L[i]?).map fun p => ihash w p.2) = l.map fun i => (es.map (·.1)).getD i 0 := by
    intro l
    induction l with
    | nil => intro _; exact ⟨rfl, rfl⟩
    | cons i l ih =>
      intro hl
      obtain ⟨p, hp1, hp2⟩ := look i (hl i List.mem_cons_self)
      obtain ⟨e1, e2⟩ := ih fun j hj => hl j (List.mem_cons_of_mem _ hj)
      have e3 : (es.map (·.1)).getD i 0 = ihash w p.2 := by
        have q : (es.map (·.1))[i]? = some (ihash w p.2) := by
          rw [Array.getElem?_map, hp2]
          rfl
        simp [Array.getD_eq_getD_getElem?, q]
      rw [List.filterMap_cons_some hp2, List.filterMap_cons_some hp1, List.map_cons, List.map_cons, List.map_cons, e1, e2, e3]
      exact ⟨rfl, rfl⟩
  obtain ⟨e1, e2⟩ := body order low
  refine ⟨order.filterMap fun i => L[i]?, e1, ?_, e2⟩
  have all : ∀ n, n ≤ L.length → (List.range n).filterMap (fun i => L[i]?) = L.take n := by
    intro n
    induction n with
    | zero => intro _; rfl
    | succ n ih =>
      intro hn
      rw [List.range_succ, List.filterMap_append, ih (Nat.le_of_lt hn), List.take_succ, List.getElem?_eq_getElem hn, List.filterMap_cons_some (List.getElem?_eq_getElem hn)]
      rfl
  have q := hp.filterMap fun i => L[i]?
  rw [all L.length (Nat.le_refl _), List.take_length] at q
  exact q

/-- the table is laid anew -/
theorem relay_new {o : Obj} (ho : s.heap.get? a = some o) (hex : o.ExactSet) (hd : o.data = .set es ep t) (hr : es.toList = L.map (entry w)) (T : TabOk t (L.map fun p => ihash w p.2)) (hi : ∀ p ∈ L, Itm s.heap p.2 p.1)
    (hpl : t.plain = true) (hld : w.params.followText "set-order" = true ∨ t.led = true) (few : L.length < 64) (hfit : L.length ≤ t.mask) {wanted M : Nat} (hw : SetTable.sizeAbove wanted - 1 = M) (hM : MaskOk M) (h128 : SetTable.sizeAbove wanted ≤ 128)
    (hroom : L.length * 5 < M * 3) {Q : Unit → Shared → Prop} (hQ : ∀ h' L' es' ep' t', Heap.SameBut a s.heap h' → NSet w h' a L' es' ep' t' → L'.Perm L → Q () { s with heap := h' }) :
    wpAny (model P w) A (setRelay a wanted) Q E s := by
  have hsz := size_of_rows hr
  obtain ⟨t', order, e, hp, T', em, el, epl, _⟩ := relaid_ok t (hs := es.map (·.1)) hw hM (by rw [Array.size_map, hsz]; omega)
  rw [Array.size_map, hsz] at hp
  obtain ⟨L2, r1, r2, r3⟩ := rows_order es order.toList hr hp
  rw [← r3] at T'
  have r1' : (order.filterMap (es[·]?)).toList = L2.map (entry w) := by
    first | (rw [Array.toList_filterMap]; exact r1) | simpa using r1
  have s2 : (order.filterMap (es[·]?)).size = es.size := by rw [size_of_rows r1', r2.length_eq, hsz]
  rw [setRelay_eq]
  refine wpAny_bind (wpAny_setState_of ho hd (fits_of T hsz hfit) ?_)
  dsimp only
  refine wp_if_neg (by rw [sizeLine_eq]; omega) ?_
  try refine wpAny_bind (wpAny_pure ?_)
  rw [e]
  refine wpAny_bind ?_
  dsimp only
  refine wp_if_neg (by rw [s2]; simp) ?_
  try refine wpAny_bind (wpAny_pure ?_)
  refine wpAny_pure ?_
  dsimp only
  refine wpAny_storeSet_of ho hd ?_ (by rw [s2, hsz, sizeLine_eq]; omega)
  have sb : Heap.SameBut a s.heap (s.heap.update a (Obj.putSet (order.filterMap (es[·]?)) t')) := Heap.SameBut.update ..
  refine hQ _ L2 _ (ep + 1) t' sb ⟨⟨_, store_at ho hd, hex, rfl⟩, r1', T', fun p hpm => (hi p (r2.mem_iff.mp hpm)).but ho hex sb, by rw [epl]; exact hpl, by rw [el]; exact hld, ?_, by rw [r2.length_eq]; exact few⟩ r2
  rw [r2.length_eq, em]
  exact hroom

/-- a new item is added -/
theorem add_new (R : NSet w s.heap a L es ep t) {x : Addr} {d : PyData} (hx : Itm s.heap d x) (hu : A.units + 8 < cLine) (hno : ∀ p ∈ L, p.2 ≠ d) (hfew : L.length + 1 < 64) {Q : Bool → Shared → Prop}
    (hQ : ∀ b h' L' es' ep' t', Heap.SameBut a s.heap h' → NSet w h' a L' es' ep' t' → L'.Perm ((x, d) :: L) → Q b { s with heap := h' }) : wpAny (model P w) A (setAddHashed a (.ref x) (ihash w d)) Q E s := by
  obtain ⟨o, ho, hex, hd⟩ := R.ob
  have hsz := R.size
  have hroom := R.room
  obtain ⟨N, hNf, hN, hNb⟩ := R.tab.first (by rw [List.length_map]; omega) (ihash w d)
  have hNs : N < 100000 := by
    have : 10 * SetTable.turns t.mask ≤ 1420 := by
      unfold SetTable.turns
      rcases R.tab.mok with e | e | e <;> omega
    omega
  unfold setAddHashed
  refine wpAny_holding ?_
  rw [show (100000 : Nat) = 99999 + 1 from rfl, setAddHashedIn_succ]
  refine wpAny_bind (wpAny_setState_of ho hd R.fits ?_)
  dsimp only
  refine wp_if_neg (by simp [byScan, Value.scannable]) ?_
  try refine wpAny_bind (wpAny_pure ?_)
  refine wpAny_bind (m := setSearch a (.ref x) (ihash w d) true) ?_
  unfold setSearch
  refine search_free R hx hu hno hNf hN hNb ?_ 100000 0 none rfl (Nat.zero_le _) (by omega)
  dsimp only
  refine wpAny_bind (wpAny_setState_of ho hd R.fits ?_)
  dsimp only
  obtain ⟨z1, z2, z3, z4, z5, z6, z7, z8, z9⟩ := R.tab.put hN hNb
  generalize hpt : t.put (way t.mask (ihash w d) N) = pt at z1 z3 z4 z5 z6 z7 z8 z9 ⊢
  obtain ⟨t1, p⟩ := pt
  dsimp only at z1 z3 z4 z5 z6 z7 z8 z9 ⊢
  subst z1
  have hp1 : t1.plain = true := z6.trans R.plain
  obtain ⟨as, hrd⟩ := hx.rd
  first
    | (refine wpAny_bind ?_; refine wp_if_pos hp1 ?_; refine nm_byVal d _ as 8 hx.nm hrd hx.dp _ _ _ ?_)
    | refine wp_if_pos hp1 (wpAny_bind (nm_byVal d _ as 8 hx.nm hrd hx.dp _ _ _ ?_))
  simp only [if_true]
  generalize hpp : SetTable.below t.place (way t.mask (ihash w d) N) = p at z2 z3 ⊢
  have hin : (SetTable.insertAt es p (ihash w d, Value.ref x)).toList = (L.take p ++ (x, d) :: L.drop p).map (entry w) := by
    rw [SetTable.toList_insertAt, R.rows, List.map_append, List.map_cons, List.map_take, List.map_drop]
  have pm : (L.take p ++ (x, d) :: L.drop p).Perm ((x, d) :: L) := put_perm L p (x, d)
  have hhs : (L.take p ++ (x, d) :: L.drop p).map (fun p => ihash w p.2) = (L.map fun p => ihash w p.2).take p ++ ihash w d :: (L.map fun p => ihash w p.2).drop p := by
    rw [List.map_append, List.map_cons, List.map_take, List.map_drop]
  rw [← hhs] at z3
  generalize SetTable.insertAt es p (ihash w d, Value.ref x) = es1 at hin ⊢
  generalize L.take p ++ (x, d) :: L.drop p = L1 at pm z3 hin
  have hlen : L1.length = L.length + 1 := by rw [pm.length_eq, List.length_cons]
  have hes : es1.size = L.length + 1 := by rw [size_of_rows hin, hlen]
  refine wpAny_bind (wpAny_storeSet_of ho hd ?_ (by rw [hes, sizeLine_eq]; omega))
  have sb : Heap.SameBut a s.heap (s.heap.update a (Obj.putSet es1 t1)) := Heap.SameBut.update ..
  have ho1 := store_at (es' := es1) (t' := t1) ho hd
  generalize s.heap.update a (Obj.putSet es1 t1) = h1 at sb ho1 ⊢
  have it1 : ∀ p ∈ L1, Itm h1 p.2 p.1 := fun p hp => by
    rcases List.mem_cons.mp (pm.mem_iff.mp hp) with e | hp
    · rw [e]
      exact hx.but ho hex sb
    · exact (R.itm p hp).but ho hex sb
  have ld1 : w.params.followText "set-order" = true ∨ t1.led = true := by rw [z5]; exact R.led
  by_cases hf : t1.tooFull = true
  · first
      | (refine wpAny_bind ?_; refine wp_if_pos (by simp [hf]) ?_)
      | (refine wp_if_pos (by simp [hf]) ?_; refine wpAny_bind ?_)
    have hfull : (L.length + 1) * 5 ≥ t1.mask * 3 := by
      have q := hf
      unfold SetTable.tooFull at q
      rw [decide_eq_true_eq, z9, List.length_map] at q
      exact q
    have go : ∀ M, SetTable.sizeAbove (SetTable.grown (L.length + 1)) - 1 = M → MaskOk M → SetTable.sizeAbove (SetTable.grown (L.length + 1)) ≤ 128 → (L.length + 1) * 5 < M * 3 → L.length + 1 ≤ t1.mask →
        wpAny (model P w) A (setRelay a (SetTable.grown (es.size + 1))) (fun _ s' => wpAny (model P w) A (pure true) Q E s') E { s with heap := h1 } := fun M q1 q2 q3 q4 q5 => by
      rw [hsz]
      refine relay_new (s := { s with heap := h1 }) ho1 hex rfl hin z3 it1 hp1 ld1 (by rw [hlen]; exact hfew) (by rw [hlen]; exact q5) q1 q2 q3 (by rw [hlen]; exact q4) ?_
      intro h2 L2 es2 ep2 t2 sb2 R2 pm2
      exact wpAny_pure (hQ true h2 L2 es2 ep2 t2 (sb.trans sb2) R2 (pm2.trans pm))
    rw [z4] at hfull
    rcases R.tab.mok with e | e | e
    · have e2 : L.length = 4 := by omega
      exact go 31 (by rw [e2, size_20]) (.inr (.inl rfl)) (by rw [e2, size_20]; decide) (by omega) (by omega)
    · have e2 : L.length = 18 := by omega
      exact go 127 (by rw [e2, size_76]) (.inr (.inr rfl)) (by rw [e2, size_76]; decide) (by omega) (by omega)
    · omega
  · first
      | refine wp_if_neg (by simp [hf]) ?_
      | (refine wpAny_bind ?_; refine wp_if_neg (by simp [hf]) ?_; refine wpAny_pure ?_)
    refine wpAny_pure (hQ true h1 L1 es1 (ep + 1) t1 sb ⟨⟨_, ho1, hex, rfl⟩, hin, z3, it1, hp1, ld1, ?_, by rw [hlen]; exact hfew⟩ pm)
    have q := hf
    unfold SetTable.tooFull at q
    rw [decide_eq_true_eq, z9, List.length_map] at q
    rw [hlen]
    omega
end

section
variable {P : Program} {w : World} {A : Around} {E : Value → Shared → Prop} {s : Shared}
theorem NSet.keep {h h' : Heap} {a : Addr} {L : List (Addr × PyData)} {es : Array (Int × Value)} {ep : Nat} {t : SetTable} (R : NSet w h a L es ep t) (hk : ∀ b o, h.get? b = some o → (b = a ∨ o.cls = .type "tuple") → h'.get? b = some o) : NSet w h' a L es ep t := by
  obtain ⟨o, ho, r⟩ := R.ob
  exact ⟨⟨o, hk a o ho (.inl rfl), r⟩, R.rows, R.tab, fun p hp => (R.itm p hp).keep fun b u hu hc => hk b u hu (.inr hc), R.plain, R.led, R.room, R.few⟩
abbrev freshSet (w : World) : Obj := { cls := .type "set", dict := none, data := .set #[] 0 (.fresh 0 0 (!w.params.followText "set-order")) }
theorem nset_fresh {h : Heap} {a : Addr} (ho : h.get? a = some (freshSet w)) : NSet w h a [] #[] 0 (.fresh 0 0 (!w.params.followText "set-order")) where
  ob := ⟨_, ho, ⟨rfl, rfl, rfl⟩, rfl⟩
  rows := rfl
  tab := ⟨List.Pairwise.nil, rfl, rfl, .inl rfl, fun x hx => (by cases hx), fun i h j hi => (by simp at hi)⟩
  itm := fun p hp => (by cases hp)
  plain := rfl
  led := by
    show _ ∨ (!w.params.followText "set-order") = true
    cases w.params.followText "set-order" <;> simp
  room := by
    show 0 * 5 < 7 * 3
    decide
  few := by
    show 0 < 64
    decide

/-- set.update's loop over unlike items -/
theorem update_new {I : Addr} {fp wr : List Addr} {G : Array GenState → Array GenState → Prop} {n : Nat} {Pv : Nat → Value → Prop} {St : Nat → Shared → Prop} {R : Result → Shared → Prop} (W : WalksS P w A.in1 I fp wr G n Pv St) (S : Addr) (hSf : S ∉ fp)
    (ks : List (Addr × PyData)) (hn : n = ks.length) (hfew : ks.length < 64) (hnd : (ks.map (·.2)).Nodup) (hval : ∀ i v, Pv i v → ∃ p, ks[i]? = some p ∧ v = .ref p.1) (h0 : Heap) (hi0 : ∀ p ∈ ks, Itm h0 p.2 p.1) (hS0 : h0.get? S = none)
    (hw0 : ∀ b ∈ wr, h0.get? b = none) (hu : A.in1.units + 8 < cLine) :
    ∀ (k i : Nat) (s : Shared), n - i = k → i ≤ n → St i s → (∀ b o, h0.get? b = some o → s.heap.get? b = some o) → (∃ L es ep t, NSet w s.heap S L es ep t ∧ L.Perm (ks.take i)) →
      (∀ s' L es ep t, Moved (S :: wr) G s s' → NSet w s'.heap S L es ep t → L.Perm ks → (∀ b o, h0.get? b = some o → s'.heap.get? b = some o) → R (.ok (.ret .none)) s') →
      codeAny (model P w) A (.builtin "set.update.loop" ⟨[.ref S, .ref I], []⟩) R s := by
  have hSw : S ∉ wr := fun z => hSf (W.sub _ z)
  have more : ∀ b ∈ wr, b ∈ S :: wr := fun b hb => List.mem_cons_of_mem _ hb
  have keepM : ∀ {s s' : Shared}, Moved wr G s s' → (∀ b o, h0.get? b = some o → s.heap.get? b = some o) → ∀ b o, h0.get? b = some o → s'.heap.get? b = some o := fun hm hk b o e =>
    hm.heap b o (fun hb => by rw [hw0 b hb] at e; cases e) (hk b o e)
  have keepS : ∀ {s' : Shared} {i : Nat} {h1 : Heap} {L : List (Addr × PyData)} {es : Array (Int × Value)} {ep : Nat} {t : SetTable}, NSet w h1 S L es ep t → L.Perm (ks.take i) → (∀ o, h1.get? S = some o → s'.heap.get? S = some o) →
      (∀ b o, h0.get? b = some o → s'.heap.get? b = some o) → NSet w s'.heap S L es ep t := fun {s' i h1 L es ep t} R pm hS hk => by
    obtain ⟨o, ho, r⟩ := R.ob
    exact ⟨⟨o, hS o ho, r⟩, R.rows, R.tab, fun p hp => (hi0 p (List.mem_of_mem_take (pm.mem_iff.mp hp))).keep fun b u hb _ => hk b u hb, R.plain, R.led, R.room, R.few⟩
  intro k
  induction k with
  | zero =>
    intro i s hk hi hst hkp ⟨L, es, ep, t, hS, pm⟩ hR
    obtain rfl : i = n := by omega
    refine codeAny_builtin F.entry_set_update_loop ?_
    rw [Around.under_plainId F.plain_set_update_loop _]
    show wpAny _ A.in1 (pyNext (.ref I) >>= _) _ _ s
    refine wpAny_bind (W.done s _ _ hst fun s' hm => ?_)
    show wpAny _ A.in1 (ret Value.none) _ _ s'
    rw [hn, List.take_length] at pm
    exact wpAny_pure (hR s' L es ep t (hm.mono more) (keepS (i := ks.length) hS (by rw [List.take_length]; exact pm) (fun o e => hm.heap S o hSw e) (keepM hm hkp)) pm (keepM hm hkp))
  | succ k ih =>
    intro i s hk hi hst hkp ⟨L, es, ep, t, hS, pm⟩ hR
    have hlt : i < n := by omega
    refine codeAny_builtin F.entry_set_update_loop ?_
    rw [Around.under_plainId F.plain_set_update_loop _]
    show wpAny _ A.in1 (pyNext (.ref I) >>= _) _ _ s
    refine wpAny_bind (W.item i s _ _ hlt hst fun v s' hP hst' hm => ?_)
    obtain ⟨p, hp, rfl⟩ := hval i v hP
    have hkp' := keepM hm hkp
    have hS' : NSet w s'.heap S L es ep t := keepS hS pm (fun o e => hm.heap S o hSw e) hkp'
    have hx : Itm s'.heap p.2 p.1 := (hi0 p (List.mem_of_getElem? hp)).keep fun b u hb _ => hkp' b u hb
    have hkd := hx.kd
    have hlen : L.length = i := by rw [pm.length_eq, List.length_take, Nat.min_eq_left (by omega)]
    show wpAny _ A.in1 (holding [Value.ref p.1] (setAdd S (.ref p.1)) >>= _) _ _ s'
    refine wpAny_bind (wpAny_holding ?_)
    unfold setAdd
    refine wpAny_holding (wpAny_bind (pyHash_key (prog := P) (w := w) (nkey p.2) _ A.in1 s' _ hx.is (by omega) ?_))
    have hno : ∀ q ∈ L, q.2 ≠ p.2 := fun q hq e => by
      obtain ⟨j, hj, ej⟩ := List.getElem_of_mem (pm.mem_iff.mp hq)
      rw [List.length_take] at hj
      have hji : j < i := by omega
      have e1 : (ks.map (·.2))[j]? = some p.2 := by
        rw [List.getElem?_map, ← e, ← ej, List.getElem_take, List.getElem?_eq_getElem (by omega)]
        rfl
      have e2 : (ks.map (·.2))[i]? = some p.2 := by
        rw [List.getElem?_map, hp]
        rfl
      have := (List.getElem?_inj (by rw [List.length_map]; omega) hnd).mp (e1.trans e2.symm)
      omega
    refine add_new (s := { s' with toks := s'.toks + (nkey p.2).draws }) hS' hx hu hno (by omega) fun b h' L' es' ep' t' hsb hS2 pm2 => ?_
    have hkp2 : ∀ b o, h0.get? b = some o → h'.get? b = some o := fun b o e => (hsb.2 b (fun z => by rw [z, hS0] at e; cases e)).trans (hkp' b o e)
    have pm3 : L'.Perm (ks.take (i + 1)) := by
      rw [List.take_succ, hp]
      exact pm2.trans ((pm.cons p).trans (List.perm_append_singleton p _).symm)
    refine wpAny_pure ⟨plainId_quiet F.plain_set_update_loop _, ih (i + 1) _ (by omega) hlt (W.frame _ s' _ _ hst' (Nat.le_add_right _ _) fun b hb o e => ?_) hkp2 ⟨L', es', ep', t', hS2, pm3⟩ fun s2 L2 es2 ep2 t2 hm2 hS3 pm4 hkp3 => ?_⟩
    · rw [hsb.2 b (fun z : b = S => hSf (by rw [← z]; exact hb))]
      exact e
    · refine hR s2 L2 es2 ep2 t2 (Moved.trans W.gtrans ((hm.mono more).then_heap (Nat.le_add_right _ _) fun b o hb e => ?_) hm2) hS3 pm4 hkp3
      rw [hsb.2 b (fun z : b = S => hb (by rw [z]; exact List.mem_cons_self))]
      exact e

/-- set(..) of a list -/
theorem set_of_list {l : Addr} {items : Array Value} (ks : List (Addr × PyData)) {Q : Value → Shared → Prop} (hh : A.handled = none) (hl : s.heap.IsList l items) (hit : items.toList = ks.map fun p => Value.ref p.1)
    (hk : ∀ p ∈ ks, Itm s.heap p.2 p.1) (hnd : (ks.map (·.2)).Nodup) (hfew : ks.length < 64) (hu : A.units + 12 < cLine)
    (h : ∀ (h' : Heap) (tk : Nat) L es ep t, NSet w h' s.heap.objs.size L es ep t → L.length = ks.length → (∀ b o, s.heap.get? b = some o → h'.get? b = some o) → Q (.ref s.heap.objs.size) { s with heap := h', toks := tk }) :
    wpAny (model P w) A (call (.type "set") [.ref l]) Q E s := by
  have hisz : items.size = ks.length := by
    have q := congrArg List.length hit
    rw [Array.length_toList, List.length_map] at q
    exact q
  obtain ⟨c, tl, hmro⟩ := F.called_set.mro
  have hmade := F.called_set.made
  have hsub := F.called_set.sub
  refine wpAny_call (codeAny_of_tree ?_)
  show wpAny _ _ (callAny (.type "set") _) _ _ _
  refine wpAny_pure ⟨Code.quiet_builtin _ (by decide +kernel), codeAny_builtin F.entry_type_call ?_⟩
  rw [Around.under_plain (weight_type_call_type "set" [.ref l] []) rfl]
  have h1 := F.called_set.notType
  have h2 := F.called_set.canCreate
  have hct := F.typeCall_set_1 (.ref l)
  repeat (any_goals (first | assumption | wp_step))
  refine codeAny_mono (code_set_led1 (.ref l) (E := E) (Q₁ := fun obj st => obj = .ref s.heap.objs.size ∧ st = { s with heap := s.heap.push (freshSet w) }) ⟨rfl, rfl⟩) fun r st hr => ?_
  cases r with
  | error e => exact hr
  | ok fl =>
    cases fl with
    | ret obj =>
      obtain ⟨rfl, rfl⟩ := hr
      have hS : (s.heap.push (freshSet w)).get? s.heap.objs.size = some (freshSet w) := Heap.get?_push_size _ rfl
      have hT : Shared.TypeIs { s with heap := s.heap.push (freshSet w) } (.ref s.heap.objs.size) "set" := ⟨_, hS, rfl⟩
      have hli := F.called_set.init.lookup
      have hbi := F.called_set.init.bind (.ref s.heap.objs.size)
      repeat (any_goals (first | assumption | wp_step))
      refine codeAny_mono (codeAny_call_builtin (R := wants (fun r st => r = .none ∧ ∃ h' tk L es ep t, st = { s with heap := h', toks := tk } ∧ NSet w h' s.heap.objs.size L es ep t ∧ L.Perm ks ∧ (∀ b o, s.heap.get? b = some o → h'.get? b = some o)) E)
        F.called_set.init.plain F.entry_set_init (check_set_init_1 hT ?_)) fun r2 st2 hr2 => ?_
      · obtain ⟨ol, hol, hcl, nl, hdl⟩ := hl
        obtain ⟨ocls, odict, odata, oslots⟩ := ol
        simp only at hcl hdl
        subst hcl; subst hdl
        have hol' : (s.heap.push (freshSet w)).get? l = some { cls := .type "list", dict := odict, data := .seq items nl, slots := oslots } := Heap.get?_push_of_some _ hol
        have hsls := F.sub_list_set
        have hslf := F.sub_list_frozenset
        have hne : (Value.type "list" == Value.type "dict") = false := by decide
        have hl1 : (s.heap.push (freshSet w)).IsList l items := ⟨_, hol', rfl, nl, rfl⟩
        unfold Builtin.«set.__init__» noKeywords Builtin.Frozenset.updateFrom
        generalize hPI : pyIter = PI
        wp_walk
        subst hPI
        refine wpAny_pyIter_list hl1 (wpAny_bind (wpAny_runValue ?_))
        have hlS : l < s.heap.objs.size := Heap.lt_size hol
        have hh3 : A.in1.in1.in1.handled = none := by simp [hh]
        have hneI : l ≠ (s.heap.push (freshSet w)).objs.size := by
          rw [Heap.size_push]
          exact Nat.ne_of_lt (Nat.lt_succ_of_lt hlS)
        have hSf : s.heap.objs.size ∉ [(s.heap.push (freshSet w)).objs.size, l] := by
          rw [Heap.size_push]
          simp only [List.mem_cons, List.not_mem_nil, or_false, not_or]
          exact ⟨Nat.ne_of_lt (Nat.lt_succ_self _), Nat.ne_of_gt hlS⟩
        have hval : ∀ (i : Nat) (v : Value), items[i]? = some v → ∃ p, ks[i]? = some p ∧ v = .ref p.1 := fun i v hv => by
          have q : items.toList[i]? = some v := by rw [Array.getElem?_toList]; exact hv
          rw [hit, List.getElem?_map] at q
          obtain ⟨p, hp, e⟩ := Option.map_eq_some_iff.mp q
          exact ⟨p, hp, e.symm⟩
        have fresh : ∀ b, s.heap.objs.size ≤ b → s.heap.get? b = none := fun b hb => by
          cases q : s.heap.get? b with
          | none => rfl
          | some o => exact absurd (Nat.lt_of_lt_of_le (Heap.lt_size q) hb) (Nat.lt_irrefl _)
        refine update_new ((Walks.list hh3 _ l hneI items).toS) s.heap.objs.size hSf ks hisz hfew hnd hval s.heap hk (fresh _ (Nat.le_refl _))
          (fun b hb => fresh b (by rw [List.mem_singleton.mp hb, Heap.size_push]; exact Nat.le_succ _)) (by show A.units + 1 + 1 + 1 + 8 < cLine; omega) (items.size - 0) 0 _ (by omega) (Nat.zero_le _)
          ⟨⟨_, Heap.get?_push_size _ rfl, rfl, rfl⟩, (hl1.push _)⟩ (fun b o e => Heap.get?_push_of_some _ (Heap.get?_push_of_some _ e)) ?first ?last
        case first =>
          exact ⟨[], #[], 0, _, nset_fresh (Heap.get?_push_of_some _ hS), by rw [List.take_zero]⟩
        case last =>
          intro s' L es ep t hm hS' pm hkp
          obtain ⟨h', g', d', tk', os'⟩ := s'
          have eg : g' = s.gens := hm.gens
          have ed : d' = s.drawn := hm.drawn
          have eo : os' = s.os := hm.os
          subst eg; subst ed; subst eo
          show wpAny _ _ _ _ _ _
          refine wpAny_pure ?_
          show wpAny _ _ (ret Value.none) _ _ _
          exact wpAny_pure ⟨rfl, h', tk', L, es, ep, t, rfl, hS', pm, hkp⟩
      · cases r2 with
        | error e => exact hr2
        | ok fl2 =>
          cases fl2 with
          | ret r =>
            obtain ⟨rfl, h', tk, L, es, ep, t, rfl, hS', pm, hk'⟩ := hr2
            repeat (any_goals (first | assumption | wp_step))
            exact h _ _ _ _ _ _ hS' pm.length_eq hk'
          | _ => exact hr2.elim
    | _ => exact hr.elim

/-- set(..) of a tuple -/
theorem set_of_tuple {l : Addr} {items : Array Value} (ks : List (Addr × PyData)) {Q : Value → Shared → Prop} (hh : A.handled = none) (hl : s.heap.IsTuple l items) (hit : items.toList = ks.map fun p => Value.ref p.1)
    (hk : ∀ p ∈ ks, Itm s.heap p.2 p.1) (hnd : (ks.map (·.2)).Nodup) (hfew : ks.length < 64) (hu : A.units + 12 < cLine)
    (h : ∀ (h' : Heap) (tk : Nat) L es ep t, NSet w h' s.heap.objs.size L es ep t → L.length = ks.length → (∀ b o, s.heap.get? b = some o → h'.get? b = some o) → Q (.ref s.heap.objs.size) { s with heap := h', toks := tk }) :
    wpAny (model P w) A (call (.type "set") [.ref l]) Q E s := by
  have hisz : items.size = ks.length := by
    have q := congrArg List.length hit
    rw [Array.length_toList, List.length_map] at q
    exact q
  obtain ⟨c, tl, hmro⟩ := F.called_set.mro
  have hmade := F.called_set.made
  have hsub := F.called_set.sub
  refine wpAny_call (codeAny_of_tree ?_)
  show wpAny _ _ (callAny (.type "set") _) _ _ _
  refine wpAny_pure ⟨Code.quiet_builtin _ (by decide +kernel), codeAny_builtin F.entry_type_call ?_⟩
  rw [Around.under_plain (weight_type_call_type "set" [.ref l] []) rfl]
  have h1 := F.called_set.notType
  have h2 := F.called_set.canCreate
  have hct := F.typeCall_set_1 (.ref l)
  repeat (any_goals (first | assumption | wp_step))
  refine codeAny_mono (code_set_led1 (.ref l) (E := E) (Q₁ := fun obj st => obj = .ref s.heap.objs.size ∧ st = { s with heap := s.heap.push (freshSet w) }) ⟨rfl, rfl⟩) fun r st hr => ?_
  cases r with
  | error e => exact hr
  | ok fl =>
    cases fl with
    | ret obj =>
      obtain ⟨rfl, rfl⟩ := hr
      have hS : (s.heap.push (freshSet w)).get? s.heap.objs.size = some (freshSet w) := Heap.get?_push_size _ rfl
      have hT : Shared.TypeIs { s with heap := s.heap.push (freshSet w) } (.ref s.heap.objs.size) "set" := ⟨_, hS, rfl⟩
      have hli := F.called_set.init.lookup
      have hbi := F.called_set.init.bind (.ref s.heap.objs.size)
      repeat (any_goals (first | assumption | wp_step))
      refine codeAny_mono (codeAny_call_builtin (R := wants (fun r st => r = .none ∧ ∃ h' tk L es ep t, st = { s with heap := h', toks := tk } ∧ NSet w h' s.heap.objs.size L es ep t ∧ L.Perm ks ∧ (∀ b o, s.heap.get? b = some o → h'.get? b = some o)) E)
        F.called_set.init.plain F.entry_set_init (check_set_init_1 hT ?_)) fun r2 st2 hr2 => ?_
      · obtain ⟨ol, hol, hcl, nl, hdl⟩ := hl
        obtain ⟨ocls, odict, odata, oslots⟩ := ol
        simp only at hcl hdl
        subst hcl; subst hdl
        have hol' : (s.heap.push (freshSet w)).get? l = some { cls := .type "tuple", dict := odict, data := .seq items nl, slots := oslots } := Heap.get?_push_of_some _ hol
        have hsls := F.sub_tuple_set
        have hslf := F.sub_tuple_frozenset
        have hne : (Value.type "tuple" == Value.type "dict") = false := by decide
        have hl1 : (s.heap.push (freshSet w)).IsTuple l items := ⟨_, hol', rfl, nl, rfl⟩
        unfold Builtin.«set.__init__» noKeywords Builtin.Frozenset.updateFrom
        generalize hPI : pyIter = PI
        wp_walk
        subst hPI
        refine wpAny_pyIter_tuple hl1 (wpAny_bind (wpAny_runValue ?_))
        have hlS : l < s.heap.objs.size := Heap.lt_size hol
        have hh3 : A.in1.in1.in1.handled = none := by simp [hh]
        have hneI : l ≠ (s.heap.push (freshSet w)).objs.size := by
          rw [Heap.size_push]
          exact Nat.ne_of_lt (Nat.lt_succ_of_lt hlS)
        have hSf : s.heap.objs.size ∉ [(s.heap.push (freshSet w)).objs.size, l] := by
          rw [Heap.size_push]
          simp only [List.mem_cons, List.not_mem_nil, or_false, not_or]
          exact ⟨Nat.ne_of_lt (Nat.lt_succ_self _), Nat.ne_of_gt hlS⟩
        have hval : ∀ (i : Nat) (v : Value), items[i]? = some v → ∃ p, ks[i]? = some p ∧ v = .ref p.1 := fun i v hv => by
          have q : items.toList[i]? = some v := by rw [Array.getElem?_toList]; exact hv
          rw [hit, List.getElem?_map] at q
          obtain ⟨p, hp, e⟩ := Option.map_eq_some_iff.mp q
          exact ⟨p, hp, e.symm⟩
        have fresh : ∀ b, s.heap.objs.size ≤ b → s.heap.get? b = none := fun b hb => by
          cases q : s.heap.get? b with
          | none => rfl
          | some o => exact absurd (Nat.lt_of_lt_of_le (Heap.lt_size q) hb) (Nat.lt_irrefl _)
        refine update_new ((Walks.tuple hh3 _ l hneI items).toS) s.heap.objs.size hSf ks hisz hfew hnd hval s.heap hk (fresh _ (Nat.le_refl _))
          (fun b hb => fresh b (by rw [List.mem_singleton.mp hb, Heap.size_push]; exact Nat.le_succ _)) (by show A.units + 1 + 1 + 1 + 8 < cLine; omega) (items.size - 0) 0 _ (by omega) (Nat.zero_le _)
          ⟨⟨_, Heap.get?_push_size _ rfl, rfl, rfl⟩, (hl1.push _)⟩ (fun b o e => Heap.get?_push_of_some _ (Heap.get?_push_of_some _ e)) ?first ?last
        case first =>
          exact ⟨[], #[], 0, _, nset_fresh (Heap.get?_push_of_some _ hS), by rw [List.take_zero]⟩
        case last =>
          intro s' L es ep t hm hS' pm hkp
          obtain ⟨h', g', d', tk', os'⟩ := s'
          have eg : g' = s.gens := hm.gens
          have ed : d' = s.drawn := hm.drawn
          have eo : os' = s.os := hm.os
          subst eg; subst ed; subst eo
          show wpAny _ _ _ _ _ _
          refine wpAny_pure ?_
          show wpAny _ _ (ret Value.none) _ _ _
          exact wpAny_pure ⟨rfl, h', tk', L, es, ep, t, rfl, hS', pm, hkp⟩
      · cases r2 with
        | error e => exact hr2
        | ok fl2 =>
          cases fl2 with
          | ret r =>
            obtain ⟨rfl, h', tk, L, es, ep, t, rfl, hS', pm, hk'⟩ := hr2
            repeat (any_goals (first | assumption | wp_step))
            exact h _ _ _ _ _ _ hS' pm.length_eq hk'
          | _ => exact hr2.elim
    | _ => exact hr.elim

end
end K6

set_option maxRecDepth 100000
set_option maxHeartbeats 8000000
/-! KR: rules of our own over the hand layer: len(set(..)), repr, own == and !=, own str, a staticmethod of a class. -/
namespace K6
open PySem PySem.Spec PyProof.Rows L2

section
variable {X : Cx} {pins : List (Addr × Obj)} {σ : L2.St} {H : Hp} {s : Shared}

/-! ### len(set(a)) -/
/-- tuples by their addresses -/
theorem tup_items {K : PySem.W.Frag} {H : Hp} : ∀ {ds : List PyData} {xs : List V}, DpAll K H xs ds → (∀ d ∈ ds, ∃ es, d = .tuple es) → ∃ ks : List (Addr × PyData), xs = ks.map (fun p => V.ref p.1) ∧ ds = ks.map (·.2) ∧ ∀ p ∈ ks, Dp K H (.ref p.1) p.2
  | [], _, .nil, _ => ⟨[], rfl, rfl, fun p hp => by cases hp⟩
  | d :: ds, v :: vs, .cons h1 h2, ht => by
    obtain ⟨ks, e1, e2, e3⟩ := tup_items h2 fun e he => ht e (List.mem_cons_of_mem _ he)
    obtain ⟨es, rfl⟩ := ht d List.mem_cons_self
    cases h1 with
    | tup hs ha =>
      rename_i a xs
      refine ⟨(a, .tuple es) :: ks, by rw [e1]; rfl, by rw [e2]; rfl, fun p hp => ?_⟩
      rcases List.mem_cons.mp hp with rfl | hp
      · exact .tup hs ha
      · exact e3 p hp
theorem refs_to : ∀ {ks : List (Addr × PyData)} {us : List Value}, Vals (ks.map fun p => V.ref p.1) us → us = ks.map fun p => Value.ref p.1
  | [], _, r => by cases r; rfl
  | p :: ks, _, r => by
    cases r with
    | cons r1 r2 =>
      cases r1
      rw [refs_to r2]
      rfl
theorem itm_of (I : Inv X pins σ H s) {a : Addr} {d : PyData} (h : Dp X.K H (.ref a) d) (hn : nm d = true) (hd : d.depth ≤ 8) : Itm s.heap d a := ⟨hn, hd, Dp.reads I d (.ref a) (.ref a) h rfl⟩
def tLenSetN (K : PySem.W.Frag) (ta : TE) : TE := fun σ H Q => ta σ H fun x H1 => ∃ (l : Addr) (xs : List V) (ds : List PyData), x = V.ref l ∧ (SqL K H1 l xs ∨ SqT K H1 l xs) ∧ DpAll K H1 xs ds ∧ nmAll ds = true ∧ PyData.depthAll ds ≤ 8 ∧ (∀ d ∈ ds, ∃ es, d = .tuple es) ∧
  ds.Nodup ∧ ds.length < 64 ∧ Q (.int ds.length) H1
theorem depth_in : ∀ {ds : List PyData} {n : Nat}, PyData.depthAll ds ≤ n → ∀ d ∈ ds, d.depth ≤ n
  | [], _, _, d, hd => by cases hd
  | e :: ds, n, h, d, hd => by
    simp only [PyData.depthAll] at h
    rcases List.mem_cons.mp hd with rfl | hd
    · omega
    · exact depth_in (by omega) d hd
theorem pe_lenSetN {a : Expr} {ta : TE} {p p2 q pos : Pos} (hc : X.calm = true) (hu : X.A.units + 64 < cLine) (hg : Gl X "len") (hm : X.mg "len" = none) (hg2 : Gl X "set") (hm2 : X.mg "set" = none) (ha : PE X a ta)
    (na : starEach [a] X.env = (false, eval a X.env) :: starEach [] X.env := by rfl) : PE X (.Call (.Name "len" p) [.Call (.Name "set" p2) [a] [] q] [] pos) (tLenSetN X.K ta) := by
  refine ⟨fun pins s σ H Q I h => Call_ (ld_blt I hg hm PySem.boot_len (PyProof.Rows.callWith_builtin1 (PyProof.Rows.args_cons ?_ rfl) rfl rfl))⟩
  refine Call_ (ld_blt I hg2 hm2 PyProof.Rows.boot_set (PyProof.Rows.callWith_type1 (PyProof.Rows.args_cons (thn (ha.run pins s σ H _ I h) fun v s1 ⟨x, H1, I1, r1, q1⟩ => PyProof.Rows.args_nil ?_) na) na rfl))
  obtain ⟨l, xs, ds, rfl, hq, hda, hnm, hdp, htp, hnd, hlen, q1⟩ := q1
  cases r1
  obtain ⟨ks, rfl, rfl, hks⟩ := tup_items hda htp
  have hitm : ∀ p ∈ ks, Itm s1.heap p.2 p.1 := fun p hp =>
    itm_of I1 (hks p hp) (nmAll_iff.mp hnm p.2 (List.mem_map_of_mem hp)) (depth_in hdp p.2 (List.mem_map_of_mem hp))
  rw [List.length_map] at hlen
  have fin : ∀ (h' : Heap) (tk : Nat) L es ep t, NSet X.w h' s1.heap.objs.size L es ep t → L.length = ks.length → (∀ b o, s1.heap.get? b = some o → h'.get? b = some o) →
      wpAny (model X.prog X.w) X.A (call (.builtin "len") [.ref s1.heap.objs.size]) (EP X pins σ Q) X.xe { s1 with heap := h', toks := tk } := fun h' tk L es ep t R hL hk => by
    obtain ⟨o, ho, hex, hd⟩ := R.ob
    have I2 : L2.Inv X pins σ H1 { s1 with heap := h', toks := tk } := I1.kept hk
    have hs := size_of_rows R.rows
    refine call_len_set ho hex hd (NSet.fits (s := { s1 with heap := h', toks := tk }) R) (by rw [hs]; have := R.few; omega) ⟨.int ks.length, H1, I2.tok _, ⟨_, by rw [hs, hL]⟩, by rw [List.length_map] at q1; exact q1⟩
  rcases hq with hq | hq
  · obtain ⟨its, r, pl, hz⟩ := I1.list hq
    exact set_of_list (P := X.prog) (w := X.w) ks (I1.ok.hd hc) pl.isList (by simpa using refs_to r) hitm hnd hlen (by omega) fun h' tk L es ep t R hL hk => PyProof.Rows.args_nil (fin h' tk L es ep t R hL hk)
  · obtain ⟨its, r, pl, hz⟩ := I1.tuple hq
    exact set_of_tuple (P := X.prog) (w := X.w) ks (I1.ok.hd hc) pl (by simpa using refs_to r) hitm hnd hlen (by omega) fun h' tk L es ep t R hL hk => PyProof.Rows.args_nil (fin h' tk L es ep t R hL hk)

/-! ### repr of data, where no repr runs around -/
theorem call_reprD (hg : X.A.guards = some []) (hu : X.A.units + 64 < cLine) : CallR X (.builtin "repr") (fun xs H Q => ∃ (a : Addr) (d : PyData), xs = [V.ref a] ∧ Dp X.K H (.ref a) d ∧ d.showable = true ∧ d.hasDict = false ∧ d.depth ≤ 60 ∧ d.shown.length ≤ sizeLine ∧ Q (.str d.shown) H) := by
  intro pins s σ H xs us Q I r h
  obtain ⟨a, d, rfl, hd, h1, h2, h3, h4, q⟩ := h
  rw [Vals.ref1 r]
  obtain ⟨as, hr⟩ := Dp.reads I d (.ref a) (.ref a) hd rfl
  exact repr_of_reads' (h₀ := s.heap) hr h1 (PyData.noDict_hsm h2) hg (by omega) (fun _ _ e => e) (fun h' u tk hk => ⟨.str d.shown, H, I.kept (t' := tk) hk, ⟨u, rfl⟩, q⟩) h4

/-! ### a method of the class run by an operator, one or two units deeper -/
theorem env0_at {A : Around} (I : Inv X pins σ H s) (hf : A.frames = X.A.frames) : Env0 X.prog X.w X.K X.mg X.base A X.stack s H := by
  have e := I.env0
  exact ⟨by rw [hf]; exact e.frames, e.mod, e.bs, e.bsz, e.funs, e.frf, e.hok, e.bare⟩
variable {CX : CXT} {k : Nat} {C f : Addr} {fd : FuncData} {ps : List Str} {sp : Sp} {E : XK}
theorem run_at {A : Around} {Q : VK} {us : List Value} {vs : List V} (F : FnOk X.prog X.w X.K X.mg X.base CX k f fd ps sp) (hr : Room k A) (hf : A.frames = X.A.frames) (hb : Binds X.K fd ps []) (hx : Passes CX X E) (I : Inv X pins σ H s) (r : Vals vs us) (h : sp vs H Q E) :
    wpAny (model X.prog X.w) A (call (.ref f) us) (EP X pins σ Q) X.xe s := by
  have hl := F.len _ _ _ _ h
  have hul : us.length = ps.length := by rw [← r.length]; exact hl
  refine wpAny_call (codeAny_mono (F.run A X.stack s H ⟨us, []⟩ us vs Q E hr (env0_at I hf) (by have z := hb s us I.kIn (by simpa using hul); simpa using z) r h) fun r s' hq => ?_)
  cases r with
  | error e => exact hx pins σ H s e s' I hq
  | ok fl =>
    cases fl with
    | ret u => exact I.after hq
    | next => exact False.elim hq
    | brk => exact False.elim hq
    | cont => exact False.elim hq

/-- what K must say of the class C for its own ==, != and str -/
structure OwnOps (K : PySem.W.Frag) (C fEq fStr : Addr) : Prop where
  eq_ : PySem.W.findIn K (.ref C) "__eq__" = some (some (.ref fEq))
  fq : PySem.W.isFn K (.ref fEq) = true
  ne_ : PySem.W.findIn K (.ref C) "__ne__" = some (some (.builtin "object.__ne__"))
  ob : PySem.W.subIn K (.ref C) (.type "object") = some true
  str_ : PySem.W.findIn K (.ref C) "__str__" = some (some (.ref fStr))
  fs : PySem.W.isFn K (.ref fStr) = true

def rOwn (C : Addr) (sp : Sp) (E : XK) (neg : Bool) : R2 := fun x y H Q => ∃ (a b dx dy : Addr) (fs gs : List (Str × V)), x = V.ref a ∧ y = V.ref b ∧ H a = some (.ins C dx fs) ∧ H b = some (.ins C dy gs) ∧
  sp [.ref a, .ref b] H (fun v H' => ∃ r : Bool, v = .bl r ∧ Q (.bl (if neg then !r else r)) H') E
theorem op_ownEq {fS : Addr} (F : FnOk X.prog X.w X.K X.mg X.base CX k f fd ps sp) (hr : Room k X.A) (O : OwnOps X.K C f fS) (hb : Binds X.K fd ps []) (hx : Passes CX X E) : OpR X (compareOp .Eq) (rOwn C sp E false) := by
  intro pins s σ H x y v u Q I rx ry h
  obtain ⟨a, b, dx, dy, fs, gs, rfl, rfl, ha, hb', hsp⟩ := h
  cases rx
  cases ry
  obtain ⟨mA, J, _⟩ := ins_get I.hok ha
  obtain ⟨mB, J', _⟩ := ins_get I.hok hb'
  obtain ⟨od, J, _⟩ := J.look
  obtain ⟨od', J', _⟩ := J'.look
  obtain ⟨m, hF⟩ := I.fr
  show wpAny (model X.prog X.w) X.A (richCompare .Eq (.ref a) (.ref b)) (EP X pins σ Q) X.xe s
  refine PySem.W.cmp_K (op := .Eq) (tb := .ref C) hr.units0 hF I.ok.mod.kin J J'.type (by simp [PySem.W.notFirst]) O.eq_ O.fq ?_
  refine thn (run_at (vs := [V.ref a, V.ref b]) F hr rfl hb hx I (.cons rfl (.cons rfl .nil)) hsp) fun w s' hq => ?_
  obtain ⟨z, H', I', rz, r, ez, q⟩ := hq
  subst ez
  cases rz
  exact ⟨.bl r, H', I', rfl, q⟩

theorem objNe_run {P : Program} {w : World} {A : Around} {E' : Value → Shared → Prop} {st : Shared} {K : PySem.W.Frag} {a : Addr} {ox : Obj} {od : Option Obj} {y : Value} {fS : Addr} {Q : PySem.Fin → Shared → Prop} (X' : K.In st.heap) (J : PySem.W.InstAt st.heap a ox C od) (O : OwnOps K C f fS) (hu : A.units < cLine)
    (h : wpAny (model P w) A (call (.ref f) [.ref a, y]) (fun v s' => ∃ b, v = .bool b ∧ Q (.done (.ret (.bool (!b)))) s') E' st) :
    wpAny (model P w) A (Builtin.«object.__ne__» ⟨[.ref a, y], []⟩) Q E' st := by
  unfold Builtin.«object.__ne__»
  refine wpAny_bind (m := slotArgs _ _ _) ?_
  refine wpAny_pure ?_
  dsimp only
  refine wpAny_bind (m := cRoomFor _ _) (wpAny_cRoomFor hu ?_)
  refine wpAny_bind (m := callSpecialIfBound? (.ref a) (Str.ofString "__eq__") [y]) (PySem.W.ifBound_K X' J O.eq_ O.fq (thn h fun v s' hv => ?_))
  obtain ⟨b, rfl, q⟩ := hv
  dsimp only
  refine wpAny_bind (m := truthy (.bool b)) (wpAny_truthy_bool ?_)
  exact wpAny_pure q
theorem ne_special {P : Program} {w : World} {A : Around} {E' : Value → Shared → Prop} {st : Shared} {K : PySem.W.Frag} {a : Addr} {ox : Obj} {od : Option Obj} {y : Value} {fS : Addr} {Q : Option Value → Shared → Prop} (X' : K.In st.heap) (J : PySem.W.InstAt st.heap a ox C od) (O : OwnOps K C f fS) (hu : A.units + 1 < cLine)
    (h : wpAny (model P w) A.in1 (call (.ref f) [.ref a, y]) (fun v s' => ∃ b, v = .bool b ∧ Q (some (.bool (!b))) s') E' st) :
    wpAny (model P w) A (callSpecialIfBound? (.ref a) (Str.ofString "__ne__") [y]) Q E' st := by
  have run : wpAny (model P w) A (call (.builtin "object.__ne__") ([.ref a] ++ [y])) (fun v => Q (some v)) E' st := by
    refine wpAny_call (codeAny_call_builtin (PySem.F.slot_tuple_iterator_ne).plain F.cmpEntry_ne (PySem.W.check_slot F.cmpKind_ne F.cmpSplit_ne (J.type.andThen (PySem.W.looks_subIn X' O.ob)) (F.cmpArgs_ne _ _) ?_))
    exact objNe_run X' J O (by show A.units + 1 < cLine; exact hu) (thn h fun v s' hv => hv)
  simp only [callSpecialIfBound?, bindSpecialIfBound?]
  refine wpAny_holding (wpAny_bind (wpAny_bind (wpAny_bind (J.type.here ((PySem.W.looks_findIn X' O.ne_).here ?_)))))
  refine wpAny_bind (wpAny_askSetting (wpAny_ite ?_))
  have fin : wpAny (model P w) A (call (.builtin "object.__ne__") ([.ref a] ++ [y]) >>= fun v => pure (some v)) Q E' st := wpAny_bind (thn run fun v s' h' => wpAny_pure h')
  have bd : bindSpecial (.builtin "object.__ne__") (.ref a) = pure (.builtin "object.__ne__", [.ref a]) := (PySem.F.slot_tuple_iterator_ne).bind (.ref a)
  rw [bd]
  split
  · exact wpAny_bind (wpAny_pure (wpAny_pure (by exact fin)))
  · exact wpAny_tryCatch (wpAny_bind (wpAny_pure (wpAny_pure (by exact fin))))
theorem op_ownNe {fS : Addr} (F : FnOk X.prog X.w X.K X.mg X.base CX k f fd ps sp) (hr : Room (k + 1) X.A) (O : OwnOps X.K C f fS) (hb : Binds X.K fd ps []) (hx : Passes CX X E) : OpR X (compareOp .NotEq) (rOwn C sp E true) := by
  intro pins s σ H x y v u Q I rx ry h
  obtain ⟨a, b, dx, dy, fs, gs, rfl, rfl, ha, hb', hsp⟩ := h
  cases rx
  cases ry
  obtain ⟨mA, J, _⟩ := ins_get I.hok ha
  obtain ⟨mB, J', _⟩ := ins_get I.hok hb'
  obtain ⟨od, J, _⟩ := J.look
  obtain ⟨od', J', _⟩ := J'.look
  have hu := hr.units
  show wpAny (model X.prog X.w) X.A (richCompare .NotEq (.ref a) (.ref b)) (EP X pins σ Q) X.xe s
  unfold richCompare
  simp only [oneThing_ref]
  refine wpAny_holding (wpAny_bind (wpAny_cRoomFor (by omega) ?_))
  rw [cmpInfo_NotEq]
  dsimp only
  refine wpAny_bind (J.type.here (wpAny_bind (J'.type.here ?_)))
  rw [show (Value.ref C != Value.ref C) = false from by simp]
  simp only [Bool.false_eq_true, if_false]
  refine wpAny_bind (wpAny_pure ?_)
  simp only [Bool.false_eq_true, if_false]
  have one : wpAny (model X.prog X.w) X.A (tryCompare (.ref a) "__ne__" (.ref b)) (fun r s' => ∃ v, r = some v ∧ EP X pins σ Q v s') X.xe s := by
    unfold tryCompare
    refine wpAny_bind (ne_special I.kIn J O (by omega) (thn (run_at (A := X.A.in1) (vs := [V.ref a, V.ref b]) F hr.in1 rfl hb hx I (.cons rfl (.cons rfl .nil)) hsp) fun w s' hq => ?_))
    obtain ⟨z, H', I', rz, r, ez, q⟩ := hq
    subst ez
    obtain rfl : w = Value.bool r := rz
    exact ⟨r, rfl, wpAny_pure ⟨_, rfl, .bl (!r), H', I', rfl, q⟩⟩
  refine wpAny_bind (thn one fun r s' z => ?_)
  obtain ⟨v, rfl, hq⟩ := z
  exact wpAny_pure hq

/-- str(x) by the class's own __str__ -/
theorem call_ownStr {fE : Addr} (F : FnOk X.prog X.w X.K X.mg X.base CX k f fd ps sp) (hr : Room (k + 2) X.A) (O : OwnOps X.K C fE f) (hb : Binds X.K fd ps []) (hx : Passes CX X E) :
    CallR X (.type "str") (fun xs H Q => ∃ (a dx : Addr) (fs : List (Str × V)), xs = [V.ref a] ∧ H a = some (.ins C dx fs) ∧ sp [.ref a] H (fun v H' => ∃ z, v = V.str z ∧ Q v H') E) := by
  intro pins s σ H xs us Q I r h
  obtain ⟨a, dx, fs, rfl, ha, hsp⟩ := h
  rw [Vals.ref1 r]
  obtain ⟨mA, J, _⟩ := ins_get I.hok ha
  obtain ⟨od, J, _⟩ := J.look
  have hu := hr.units
  refine PySem.W.kso_call (by show X.A.units + 1 + 1 < cLine; omega) I.kIn J O.str_ O.fs (thn (run_at (A := X.A.in1.in1) (vs := [V.ref a]) F (hr.in1).in1 rfl hb hx I (.cons rfl .nil) hsp) fun w s' hq => ?_)
  obtain ⟨z, H', I', rz, y, ez, q⟩ := hq
  subst ez
  obtain ⟨t, rfl⟩ := rz
  exact ⟨.str y, H', I', ⟨t, rfl⟩, q⟩

/-! ### C.m(..), m a staticmethod of the class -/
structure SMet (K : PySem.W.Frag) (C : Addr) (mc : Value) (m : Str) (g : Addr) : Prop where
  rd : PySem.W.readsIn K C mc = true
  ga : PySem.W.specialIn K (.ref C) "__getattribute__" = some (some (.builtin "type.__getattribute__"))
  at_ : ∃ p rest, PySem.W.findCls K (.ref C) mc m = some (.get (.builtin "staticmethod.__get__") (.ref p) .none (.ref C)) ∧ PySem.W.recIn K p "staticmethod" = some (.ref g :: rest)
  kp : PySem.W.keepIn K (.ref g) = true
theorem getsm_ok {mc : Value} {m : Str} {g : Addr} {A : Around} {E' : Value → Shared → Prop} {pl : Sem Bool} {Q : Value × List Value → Shared → Prop} (I : L2.Inv X pins σ H s) (k : SMet X.K C mc m g) (h : ∀ s', L2.Inv X pins σ H s' → Q (.ref g, []) s') :
    wpAny (model X.prog X.w) A (getMethod (.ref C) m pl) Q E' s := by
  obtain ⟨p, rest, h1, h2⟩ := k.at_
  refine PySem.W.method_cls I.kIn k.ga (PySem.W.cls_bind I.kIn k.rd h1 ?_)
  exact wpAny_call (PySem.W.sm_get (s := { s with toks := s.toks + 1 }) I.kIn h2 (PySem.W.handed_on rfl (h _ (I.tok _))))
def tSMeth (C : Addr) (sp : Sp) (E : XK) (ta : TE) (t : TA) : TE := fun σ H Q => ta σ H fun x H1 => x = .ref C ∧ t σ H1 fun vs H2 => sp vs H2 Q E
variable {mc : Value} {m : Str} {g : Addr} {o e : Expr} {es : List Expr} {kws : List Keyword} {pos apos : Pos} {ta : TE} {t tk : TA} {pl : Sem Bool} {ks : List Str}
theorem pe_smeth (he : PE X o ta) (c : SMet X.K C mc m g) (F : FnOk X.prog X.w X.K X.mg X.base CX k g fd ps sp) (hr : Room k X.A) (hb : Binds X.K fd ps []) (hx : Passes CX X E) (ha : PA X (e :: es) t)
    (hst : starEach (e :: es) X.env = (false, eval e X.env) :: starEach es X.env := by rfl) (hpl : (backTo pos (starEach es X.env)).any (·.1) = false := by rfl)
    (ht : eval (.Call (.Attribute o m apos) (e :: es) [] pos) X.env = (do
      let ov ← eval o X.env
      standAt apos.atName
      let (f, first) ← holding [ov] (getMethod ov m pl)
      callWith pos f first (backTo pos (starEach (e :: es) X.env)) (backToKw pos (keywordEach [] X.env))) := by rfl) :
    PE X (.Call (.Attribute o m apos) (e :: es) [] pos) (tSMeth C sp E ta t) := by
  refine ⟨fun pins s σ H Q I h => PySem.W.methodCall_KW (pl := pl) (thn (he.run pins s σ H _ I h) fun u s1 ⟨x, H1, I1, rx, ex, q⟩ => ?_) ht⟩
  subst ex
  obtain rfl : u = Value.ref C := rx
  refine getsm_ok I1 c fun s2 I2 => ?_
  refine PySem.W.callWith_K (first := []) (h₀ := X.base) I.ok.mod.kin c.kp (thn (ha.run pos pins s2 σ H1 _ I2 q) fun us s3 ⟨vs, H2, I3, r, q2⟩ => ⟨I3.kIn, ?_⟩) hst hpl
  exact run_at F hr rfl hb hx I3 r q2
theorem pe_smethK (he : PE X o ta) (c : SMet X.K C mc m g) (F : FnOk X.prog X.w X.K X.mg X.base CX k g fd ps sp) (hr : Room k X.A) (hb : KBinds X.K fd ps ks (fun us ws => us ++ ws) (fun vs zs => vs ++ zs)) (hx : Passes CX X E) (hkw : PK X kws tk)
    (hall : (backToKw pos (keywordEach kws X.env)).all (·.1.isSome) = true := by rfl) (hks : (backToKw pos (keywordEach kws X.env)).filterMap (·.1) = ks := by rfl)
    (hpl : ((backTo pos (starEach [] X.env)).any (·.1) || (backToKw pos (keywordEach kws X.env)).any (·.1.isNone)) = false := by rfl)
    (ht : eval (.Call (.Attribute o m apos) [] kws pos) X.env = (do
      let ov ← eval o X.env
      standAt apos.atName
      let (f, first) ← holding [ov] (getMethod ov m pl)
      callWith pos f first (backTo pos (starEach [] X.env)) (backToKw pos (keywordEach kws X.env))) := by rfl) :
    PE X (.Call (.Attribute o m apos) [] kws pos) (tSMeth C sp E ta tk) := by
  refine ⟨fun pins s σ H Q I h => PySem.W.methodCall_KW (pl := pl) (thn (he.run pins s σ H _ I h) fun u s1 ⟨x, H1, I1, rx, ex, q⟩ => ?_) ht⟩
  subst ex
  obtain rfl : u = Value.ref C := rx
  refine getsm_ok I1 c fun s2 I2 => ?_
  refine PySem.W.callWith_KW0 (first := []) (h₀ := X.base) I.ok.mod.kin c.kp hall ?_ hpl
  refine thn (hkw.run pos pins s2 σ H1 _ I2 q) fun ws s3 ⟨zs, H2, I3, rz, q2⟩ => ⟨I3.kIn, ?_⟩
  rw [hks]
  exact run_fnk (vs := []) F hr hb hx I3 .nil rz q2
end
end K6

set_option maxRecDepth 100000
set_option maxHeartbeats 4000000
/-! KEnd: the end of a law row where the law's own body wants to know that no repr runs around it: the law's def is walked at the claim's caller alone. -/
namespace K6
open PySem PySem.Spec PyProof.Rows L2

/-- the law's promise, kept where the claim's caller calls it -/
structure LawOk (P : Program) (w : World) (K : PySem.W.Frag) (mg : Str → Option Value) (base : Heap) (f : Addr) (fd : FuncData) (x : Str) (sp : Sp) : Prop where
  run : ∀ (s : Shared) (H : Hp) (args : Args) (us : List Value) (vs : List V) (Q : VK), Env0 P w K mg base callerA [] s H → BindsTo s fd args ([x].zip us) → Vals vs us → sp vs H Q E0 →
    codeAny (model P w) callerA (.call (.ref f) args) (CR CX0 [] P w H s Q E0) s

/-- .. by its body -/
theorem lawOk_by {P : Program} {w : World} {K : PySem.W.Frag} {mg : Str → Option Value} {base : Heap} {k : Nat} {f : Addr} {fd : FuncData} {name qual x : Str} {st : Stmt} {N : List Str} {sp : Sp} (F : Fun K name qual st f fd) (S : FnScope N [x] (defScope st))
    (hr : Room (k + 1) callerA) (len : ∀ vs H Q E, sp vs H Q E → vs.length = 1)
    (hbody : ∀ (cdv : Value) (s : Shared) (H : Hp) (vs : List V) (Q : VK), Room k (callerA.deeper (envOfC qual (defScope st) s.heap.objs.size f cdv)) → sp vs H Q E0 →
      ∃ t, PSs (cxOf CX0 P w K mg base N qual (defScope st) f cdv callerA [] s H E0).nox (defBody st) t ∧ t { nx := fun _ H' => Q .non H', rt := Q } (start N vs) H) : LawOk P w K mg base f fd x sp := by
  obtain ⟨oc, od, kV, doc, pm, an, cdv, ct, osl, rfl, lk, hcd⟩ := F.ex
  refine ⟨fun s H args us vs Q e0 hb r hsp => ?_⟩
  have hl := len _ _ _ _ hsp
  have up : ∀ b o, base.get? b = some o → s.heap.get? b = some o := fun b o e => (e0.bs b o e).1
  have KX : K.In s.heap := e0.mod.kin.keeps up
  have lim : s.heap.NoLimit := e0.mod.nolimit.keeps up
  have par : ∀ y ∈ [x].zip us, (defScope st).names.lookup y.1 = some .local ∨ ((defScope st).names.lookup y.1 = some .cell ∧ ((cellsFrom (s.heap.objs.size + 1) (defScope st).names []).lookup y.1).isSome = true) := by
    rintro ⟨n, v⟩ hy
    rcases S.par n (List.of_mem_zip hy).1 with q | q
    · exact .inl q
    · exact .inr ⟨q, PySem.W.cellsFrom_some _ _ _ (.inl q)⟩
  refine codeAny_call_function hr.depth (KX _ _ lk) rfl S.co S.gen rfl (PySem.W.codeRec_of KX hcd) (hb _ _ _ _ (wpAny_newFunctionEnv_cells S.kind par fun env he s1 y => ?_))
  subst he
  obtain ⟨t, ht, hq⟩ := hbody cdv s H vs Q (hr.deeper _) hsp
  refine ⟨lim.keeps y.toInCall.keep, codeAny_func ?_⟩
  have I := inv_start (CX := CX0) (P := P) (w := w) (K := K) (mg := mg) (base := base) (E := E0) S hr.hd e0 hl r y
  refine wpAny_mono (ht.nox.run [] s1 (start N vs) H _ I hq) (fun fl s' hs => ?_) fun e s' hs => hs
  cases fl with
  | ret u =>
    obtain ⟨v, σ', H', J, rv, q⟩ := hs
    exact ⟨v, H', J.os, J.bare, J.base, J.hok, rv, q⟩
  | next =>
    obtain ⟨σ', H', J, q⟩ := hs
    exact ⟨V.non, H', J.os, J.bare, J.base, J.hok, rfl, q⟩
  | brk =>
    obtain ⟨_, _, _, q⟩ := hs
    exact q.elim
  | cont =>
    obtain ⟨_, _, _, q⟩ := hs
    exact q.elim

/-- the abstract heap at the law's call: the script alone, and only where the top has not made it -/
def scriptH (K : PySem.W.Frag) (a : Addr) (vs : List Value) (ns : List Int) : Hp := fun b => if b = a ∧ K.lookup a = none then some (.frz { cls := .type "list", data := .seq vs.toArray } (.lst (ns.map V.int))) else none
theorem scriptH_some {K : PySem.W.Frag} {a b : Addr} {vs : List Value} {ns : List Int} {u : HO} (h : scriptH K a vs ns b = some u) : b = a ∧ K.lookup a = none ∧ u = .frz { cls := .type "list", data := .seq vs.toArray } (.lst (ns.map V.int)) := by
  unfold scriptH at h
  split at h
  · rename_i q
    exact ⟨q.1, q.2, (Option.some.inj h).symm⟩
  · cases h

theorem lawWalk {l : PySem.W.OpenLaw} {n : Nat} {q : Program} {loose : List Str} {XP : (Str → Option Value) → Heap → Prop} {YP : World → Heap → Prop} {d : DefRec} {K : Params → PySem.W.Frag} {sp : PySem.W.Frag → Sp} {x : Str}
    (hn : l.most = some n) (hn2 : n ≤ sizeLine) (hdf : d.params.defaults = []) (hY : ∀ (w : World) (h : Heap), YP w h → (K w.params).In h)
    (F : ∀ (w : World) (mg : Str → Option Value) (fa : Addr) (h : Heap), (K w.params).In h → h.Ns mainGlobals mg → mg d.name = some (.ref fa) →
      ∃ fd : FuncData, (∀ (s : Shared) (u : Value), BindsTo s fd ⟨[u], []⟩ [(x, u)]) ∧ ∀ base : Heap, (K w.params).In base → base.Ns mainGlobals mg → LawOk l.prog w (K w.params) mg base fa fd x (sp (K w.params)))
    (hsp : ∀ (K : PySem.W.Frag) (H : Hp) (a : Addr) (ns : List Int), ns.length ≤ n → SqL K H a (ns.map V.int) → sp K [.ref a] H (fun v _ => v = .bl true) E0) :
    PySem.W.WalkO q loose XP YP l.row.toRowW d [] (fun f vs => PySem.call f vs) := by
  refine Att.attach_call hn hdf fun w s0 s1 mg mb fa o pm cd doc a vs ns G Y _ _ _ hmg hobj hints hlen hgens => ?_
  have KX := hY w _ Y
  generalize K w.params = K' at KX
  obtain ⟨fd, hb, hF⟩ := F w mg fa s1.heap (hY w _ Y) G.T.g hmg
  have KX := hY w _ Y
  have rv := vals_ints hints
  have lenV := hints.length
  have hsz : ns.length ≤ sizeLine := Nat.le_trans hlen hn2
  -- H: what is tracked
  have free : ∀ {b : Addr} {ob : Obj} {es : Array DictEntry} {ep : Nat}, s1.heap.get? b = some ob → ob.data = .dict es ep → scriptH (K w.params) a vs ns b = none := fun {b ob es ep} e dd => by
    cases z : scriptH (K w.params) a vs ns b with
    | none => rfl
    | some u =>
      obtain ⟨rfl, _, _⟩ := scriptH_some z
      rw [hobj] at e
      cases e
      cases dd
  have inK : ∀ {b : Addr} {ob : Obj}, (K w.params).lookup b = some ob → scriptH (K w.params) a vs ns b = none := fun {b ob} e => by
    cases z : scriptH (K w.params) a vs ns b with
    | none => rfl
    | some u =>
      obtain ⟨rfl, z2, _⟩ := scriptH_some z
      rw [e] at z2
      cases z2
  have ns_of : ∀ {b : Addr} {m : Str → Option Value}, s1.heap.Ns b m → (hidT s1.heap (scriptH (K w.params) a vs ns)).Ns b m := fun {b m} ⟨ob, es, ep, e, dd, r⟩ => ⟨ob, es, ep, hidT_get e (free e dd), dd, r⟩
  have Kb : (K w.params).In (hidT s1.heap (scriptH (K w.params) a vs ns)) := fun b ob e => hidT_get (KX b ob e) (inK e)
  have hok : HOk l.prog w (scriptH (K w.params) a vs ns) s1.heap := fun b u z => by
    obtain ⟨rfl, _, rfl⟩ := scriptH_some z
    exact ⟨hobj, by rw [List.length_map]; exact hsz, vs, _, rv, hobj⟩
  have hS : SqL (K w.params) (scriptH (K w.params) a vs ns) a (ns.map V.int) := by
    cases z : (K w.params).lookup a with
    | none => exact .inl (.inr ⟨_, if_pos ⟨rfl, z⟩⟩)
    | some ob =>
      have e := KX a ob z
      rw [hobj] at e
      cases e
      exact .inr ⟨_, vs.toArray, _, z, rfl, rfl, rfl, by rw [List.size_toArray, lenV]; exact hsz, by simpa using rv⟩
  have mod : Mod (K w.params) mg (hidT s1.heap (scriptH (K w.params) a vs ns)) := ⟨Kb, ns_of G.T.g, ⟨mb, ns_of G.T.b, G.T.builtins⟩, let ⟨mc, e1, e2⟩ := G.T.nolimit; ⟨mc, ns_of e1, e2⟩⟩
  have e0 : Env0 l.prog w (K w.params) mg (hidT s1.heap (scriptH (K w.params) a vs ns)) callerA [] s1 (scriptH (K w.params) a vs ns) :=
    ⟨rfl, mod, fun b ob e => of_hidT e, Nat.le_of_eq (hidT_size _ _), trivial, fun b hb => absurd (show b ∈ ([] : List Addr) from hb) (by simp), hok, .of_eq hgens⟩
  refine codeAny_mono ((hF _ Kb (ns_of G.T.g)).run s1 (scriptH (K w.params) a vs ns) ⟨[.ref a], []⟩ [.ref a] [.ref a] _ e0 (hb s1 (.ref a)) (.cons rfl .nil) (hsp _ _ a ns hlen hS)) fun r s' z => ?_
  cases r with
  | error e => exact z.elim
  | ok fl =>
    cases fl with
    | next => exact False.elim z
    | brk => exact False.elim z
    | cont => exact False.elim z
    | ret u =>
      obtain ⟨v, H', os, bare, un, hok', r', qv⟩ := z
      obtain rfl : v = .bl true := qv
      obtain rfl : u = Value.bool true := r'
      refine ⟨rfl, PySem.OldK.of_keep fun b ob e => ?_, os, bare⟩
      cases z2 : scriptH (K w.params) a vs ns b with
      | none => exact un.keep b ob e z2 (fun z3 => absurd (show b ∈ ([] : List Addr) from z3) (by simp)) (by simp)
      | some u =>
        obtain ⟨rfl, _, rfl⟩ := scriptH_some z2
        obtain ⟨e2, _⟩ := hok' b _ (un.frzs b _ _ z2)
        rw [hobj] at e
        cases e
        exact e2
end K6

set_option maxRecDepth 100000
/-! KT: the text by places. -/
namespace K6
open PySem L2
def top (i : Nat) : Stmt := PySem.Challenge.pw_timesfloor_k06_whole_texts_of_machines.main.body.getD i (.Pass ⟨0, 0, 0, 0⟩)
abbrev sIsInteger : Stmt := top 6
abbrev sIsWithin : Stmt := top 7
abbrev sIsList : Stmt := top 8
abbrev sHalves : Stmt := top 13
abbrev sCommon : Stmt := top 14
abbrev sLowestIn : Stmt := top 15
abbrev sTextIn : Stmt := top 16
abbrev sIsNumber : Stmt := top 17
abbrev sIsSmall : Stmt := top 18
abbrev sKeptNumber : Stmt := top 19
abbrev sWritten : Stmt := top 24
abbrev sWrittenFraction : Stmt := top 25
abbrev sScanInit : Stmt := inClass (top 26) 0
abbrev sAhead : Stmt := inClass (top 26) 1
abbrev sTake : Stmt := inClass (top 26) 4
abbrev sTakeJust : Stmt := inClass (top 26) 5
abbrev sTakeNumber : Stmt := inClass (top 26) 6
abbrev sTakeFraction : Stmt := inClass (top 26) 7
abbrev sFinish : Stmt := inClass (top 26) 8
abbrev sIsRow : Stmt := top 31
abbrev sIsCorner : Stmt := top 32
abbrev sIsPiece : Stmt := top 33
abbrev sKeptRow : Stmt := top 34
abbrev sKeptPiece : Stmt := top 35
abbrev sAreUnlike : Stmt := top 36
abbrev sMachineInit : Stmt := inClass (top 37) 0
abbrev sMachineEq : Stmt := inClass (top 37) 1
abbrev sMachineStr : Stmt := inClass (top 37) 2
abbrev sRead : Stmt := inClass (top 37) 3
abbrev sItemsIn : Stmt := top 38
abbrev sPieceIn : Stmt := top 39
abbrev sScroll : Stmt := top 41
abbrev sRollBy : Stmt := top 42
abbrev sPick : Stmt := top 43
abbrev sForm : Stmt := top 45
abbrev sNumber : Stmt := top 49
abbrev sPiece : Stmt := top 50
abbrev sPieces : Stmt := top 51
abbrev sLawWritten : Stmt := top 52
abbrev sText : Stmt := top 53
abbrev sGreat : Stmt := top 54
abbrev sLaw : Stmt := top 55
end K6

set_option maxRecDepth 100000
set_option maxHeartbeats 4000000
/-! KW: words of our own: what a def keeps, how data stands, what is left alone. -/
namespace K6
open PySem PySem.Spec PyProof.Rows L2

/-! ### data over a changed heap -/
/-- all but p is as it was -/
def But (p : Addr) (H H' : Hp) : Prop := ∀ b o, H b = some o → b ≠ p → H' b = some o
theorem But.refl (p : Addr) (H : Hp) : But p H H := fun _ _ h _ => h
theorem But.trans {p : Addr} {H H1 H2 : Hp} (a : But p H H1) (b : But p H1 H2) : But p H H2 := fun c o h n => b c o (a c o h n) n
theorem But.of {p : Addr} {H H' : Hp} (e : Same H H') : But p H H' := fun b o h _ => e b o h
theorem But.upd {p : Addr} {H H1 : Hp} {o : HO} (e : But p H H1) : But p H (L2.upd H1 p o) := fun b u h n => by
  rw [upd_ne n]
  exact e b u h n
theorem But.put {p : Addr} {H : Hp} {o : HO} : But p H (L2.upd H p o) := (But.refl p H).upd
theorem But.new {p q : Addr} {H H1 : Hp} {o : HO} (e : But p H H1) (h : H1 q = none) : But p H (L2.upd H1 q o) := fun b u hb n => by
  have z := e b u hb n
  rw [upd_ne (ne_of_none z h)]
  exact z
theorem Same.new {q : Addr} {H H1 : Hp} {o : HO} (e : Same H H1) (h : H1 q = none) : Same H (L2.upd H1 q o) := fun b u hb => by
  have z := e b u hb
  rw [upd_ne (ne_of_none z h)]
  exact z
theorem Same.one {q : Addr} {H : Hp} {o : HO} (h : H q = none) : Same H (L2.upd H q o) := Same.new (Same.refl H) h
theorem But.free {p l : Addr} {H H' : Hp} (e : But p H H') (h : H' l = none) (n : l ≠ p) : H l = none := by
  cases q : H l with
  | none => rfl
  | some o =>
    rw [e l o q n] at h
    cases h
/-- what is no tuple -/
def NoTup (u : HO) : Prop := ∀ xs, u ≠ .tup xs ∧ ∀ o, u ≠ .frz o (.tup xs)
theorem noTup_lst (xs : List V) : NoTup (.lst xs) := fun ys => ⟨(by intro h; cases h), (by intro o h; cases h)⟩
theorem noTup_ins (C dx : Addr) (fs : List (Str × V)) : NoTup (.ins C dx fs) := fun ys => ⟨(by intro h; cases h), (by intro o h; cases h)⟩
section
variable {K : PySem.W.Frag} {H H' : Hp} {p a : Addr} {u : HO} {xs : List V}
theorem sqT_same (e : Same H H') (h : SqT K H a xs) : SqT K H' a xs := SqT.ext h e
theorem sqL_same (e : Same H H') (h : SqL K H a xs) : SqL K H' a xs := SqL.ext h e
theorem sqT_but (hp : H p = some u) (nt : NoTup u) (e : But p H H') (h : SqT K H a xs) : SqT K H' a xs := by
  rcases h with (h | ⟨o, h⟩) | h
  · refine .inl (.inl (e _ _ h ?_))
    rintro rfl
    rw [hp] at h
    exact (nt xs).1 (Option.some.inj h)
  · refine .inl (.inr ⟨o, e _ _ h ?_⟩)
    rintro rfl
    rw [hp] at h
    exact (nt xs).2 o (Option.some.inj h)
  · exact .inr h
mutual
theorem dp_same (e : Same H H') : ∀ (d : PyData) (v : V), Dp K H v d → Dp K H' v d
  | .none, _, h => by cases h; exact .non
  | .bool b, _, h => by cases h; exact .bl b
  | .int i, _, h => by cases h; exact .int i
  | .str x, _, h => by cases h; exact .str x
  | .list ds, _, h => by
    cases h with
    | lst hs ha => exact .lst (sqL_same e hs) (dpAll_same e ds _ ha)
  | .tuple ds, _, h => by
    cases h with
    | tup hs ha => exact .tup (sqT_same e hs) (dpAll_same e ds _ ha)
  | .dict _, _, h => by cases h
theorem dpAll_same (e : Same H H') : ∀ (ds : List PyData) (vs : List V), DpAll K H vs ds → DpAll K H' vs ds
  | [], _, h => by cases h; exact .nil
  | d :: ds, _, h => by
    cases h with
    | cons h1 h2 => exact .cons (dp_same e d _ h1) (dpAll_same e ds _ h2)
end
mutual
theorem dp_but (hp : H p = some u) (nt : NoTup u) (e : But p H H') : ∀ (d : PyData) (v : V), nm d = true → Dp K H v d → Dp K H' v d
  | .int i, _, _, h => by cases h; exact .int i
  | .tuple ds, _, hn, h => by
    cases h with
    | tup hs ha => exact .tup (sqT_but hp nt e hs) (dpAll_but hp nt e ds _ (by simpa only [nm] using hn) ha)
  | .none, _, h, _ | .bool _, _, h, _ | .str _, _, h, _ | .list _, _, h, _ | .dict _, _, h, _ => by simp [nm] at h
theorem dpAll_but (hp : H p = some u) (nt : NoTup u) (e : But p H H') : ∀ (ds : List PyData) (vs : List V), nmAll ds = true → DpAll K H vs ds → DpAll K H' vs ds
  | [], _, _, h => by cases h; exact .nil
  | d :: ds, _, hn, h => by
    rw [nmAll, Bool.and_eq_true] at hn
    cases h with
    | cons h1 h2 => exact .cons (dp_but hp nt e d _ hn.1 h1) (dpAll_but hp nt e ds _ hn.2 h2)
end
theorem dp_int {v : V} {i : Int} (h : Dp K H v (.int i)) : v = .int i := by cases h; rfl
theorem dp_tup {v : V} {ds : List PyData} (h : Dp K H v (.tuple ds)) : ∃ a xs, v = .ref a ∧ SqT K H a xs ∧ DpAll K H xs ds := by
  cases h with
  | tup hs ha => exact ⟨_, _, rfl, hs, ha⟩
theorem dpAll_len : ∀ {ds : List PyData} {xs : List V}, DpAll K H xs ds → xs.length = ds.length
  | [], _, h => by cases h; rfl
  | d :: ds, _, h => by
    cases h with
    | cons _ h2 => rw [List.length_cons, List.length_cons, dpAll_len h2]
theorem dpAll_get : ∀ {ds : List PyData} {xs : List V} {i : Nat} {v : V}, DpAll K H xs ds → xs[i]? = some v → ∃ d, ds[i]? = some d ∧ Dp K H v d
  | [], _, _, _, h, e => by cases h; simp at e
  | d :: ds, _, i, v, h, e => by
    cases h with
    | cons h1 h2 =>
      cases i with
      | zero =>
        simp at e
        subst e
        exact ⟨d, rfl, h1⟩
      | succ i =>
        obtain ⟨d', q1, q2⟩ := dpAll_get (i := i) (v := v) h2 (by simpa using e)
        exact ⟨d', by simpa using q1, q2⟩
theorem dpAll_at : ∀ {ds : List PyData} {xs : List V} {i : Nat} {d : PyData}, DpAll K H xs ds → ds[i]? = some d → ∃ v, xs[i]? = some v ∧ Dp K H v d
  | [], _, _, _, h, e => by simp at e
  | d :: ds, _, i, d', h, e => by
    cases h with
    | cons h1 h2 =>
      cases i with
      | zero =>
        simp at e
        subst e
        exact ⟨_, rfl, h1⟩
      | succ i =>
        obtain ⟨v', q1, q2⟩ := dpAll_at (i := i) (d := d') h2 (by simpa using e)
        exact ⟨v', by simpa using q1, q2⟩
theorem dpAll_app : ∀ {ds es : List PyData} {xs ys : List V}, DpAll K H xs ds → DpAll K H ys es → DpAll K H (xs ++ ys) (ds ++ es)
  | [], _, _, _, h, h' => by cases h; exact h'
  | d :: ds, _, _, _, h, h' => by
    cases h with
    | cons h1 h2 => exact .cons h1 (dpAll_app h2 h')
theorem dpAll_one {v : V} {d : PyData} (h : Dp K H v d) : DpAll K H [v] [d] := .cons h .nil
theorem dpAll_ints : ∀ (ns : List Int), DpAll K H (ns.map V.int) (ns.map PyData.int)
  | [] => .nil
  | n :: ns => .cons (.int n) (dpAll_ints ns)
theorem dpAll_ints_of : ∀ {ns : List Int} {xs : List V}, DpAll K H xs (ns.map PyData.int) → xs = ns.map V.int
  | [], _, h => by cases h; rfl
  | n :: ns, _, h => by
    cases h with
    | cons h1 h2 =>
      cases h1
      rw [dpAll_ints_of h2]
      rfl
/-- data at three places -/
theorem dpAll_3 {xs : List V} {d e f : PyData} (h : DpAll K H xs [d, e, f]) : ∃ x y z, xs = [x, y, z] ∧ Dp K H x d ∧ Dp K H y e ∧ Dp K H z f := by
  cases h with
  | cons h1 h =>
    cases h with
    | cons h2 h =>
      cases h with
      | cons h3 h =>
        cases h
        exact ⟨_, _, _, rfl, h1, h2, h3⟩
theorem dpAll_2 {xs : List V} {d e : PyData} (h : DpAll K H xs [d, e]) : ∃ x y, xs = [x, y] ∧ Dp K H x d ∧ Dp K H y e := by
  cases h with
  | cons h1 h =>
    cases h with
    | cons h2 h =>
      cases h
      exact ⟨_, _, rfl, h1, h2⟩
/-- kinds, as isinstance asks -/
theorem tyT (h : SqT K H a xs) : TyX K H (.ref a) (.type "tuple") := by
  rcases h with (h | ⟨o, h⟩) | ⟨o, _, _, h, hc, _⟩
  · exact .base (.tup h)
  · exact .fTuple h
  · exact .kTuple h hc
theorem tyL (h : SqL K H a xs) : TyX K H (.ref a) (.type "list") := by
  rcases h with (h | ⟨o, h⟩) | ⟨o, _, _, h, hc, _⟩
  · exact .base (.lst h)
  · exact .base (.frz h)
  · exact .kList h hc
end

/-! ### a def of the module, by its name and its promise -/
structure Kp (P : Program) (w : World) (K : PySem.W.Frag) (mg : Str → Option Value) (base : Heap) (k : Nat) (x : Str) (f : Addr) (sp : Sp) : Prop where
  ok : ∃ fd ps, FnOk P w K mg base CX0 k f fd ps sp ∧ Binds K fd ps []
  at_ : mg x = some (.ref f)
  kp : PySem.W.keepIn K (.ref f) = true
/-- a method of the class at C -/
structure Km (P : Program) (w : World) (K : PySem.W.Frag) (mg : Str → Option Value) (base : Heap) (k : Nat) (C : Addr) (m : Str) (sp : Sp) : Prop where
  ok : ∃ f fd ps, Meth K C m f ∧ FnOk P w K mg base CX0 k f fd ps sp ∧ Binds K fd ps []
/-- the making of an instance of the class at C, named x -/
structure Kc (P : Program) (w : World) (K : PySem.W.Frag) (mg : Str → Option Value) (base : Heap) (k : Nat) (x : Str) (C : Addr) (sp : Sp) : Prop where
  ok : ∃ f fd ps, Mk K C f ∧ FnOk P w K mg base CX0 k f fd ps sp ∧ Binds K fd ps []
  at_ : mg x = some (.ref C)
def tK (sp : Sp) (t : TA) : TE := fun σ H Q => t σ H fun vs H1 => sp vs H1 Q E0
def tKm (C : Addr) (m : Str) (sp : Sp) (ta : TE) (t : TA) : TE := fun σ H Q => ta σ H fun x H1 => ∃ a dx fs, x = .ref a ∧ H1 a = some (.ins C dx fs) ∧ fs.lookup m = none ∧ t σ H1 fun vs H2 => sp (x :: vs) H2 Q E0
def tKc (C : Addr) (sp : Sp) (t : TA) : TE := fun σ H Q => t σ H fun vs H1 => ∀ x dx, H1 x = none → H1 dx = none → dx ≠ x → sp (.ref x :: vs) (upd (upd H1 dx (.own x)) x (.ins C dx [])) (fun v H2 => v = .non ∧ Q (.ref x) H2) E0
section
variable {X : Cx} {k j : Nat} {f C : Addr} {sp : Sp} {x m : Str} {p pos apos : Pos} {e o : Expr} {es : List Expr} {ta : TE} {t : TA} {pl : Sem Bool}
theorem pe_k (G : Kp X.prog X.w X.K X.mg X.base k x f sp) (hr : Room j X.A) (ha : PA X (e :: es) t) (hj : k ≤ j := by decide) (hg : Gl X x := by rfl)
    (hdb : (x == ("__debug__" : Str)) = false := by decide) (he : starEach (e :: es) X.env = (false, eval e X.env) :: starEach es X.env := by rfl) (hpl : (backTo pos (starEach es X.env)).any (·.1) = false := by rfl) :
    PE X (.Call (.Name x p) (e :: es) [] pos) (tK sp t) := by
  obtain ⟨fd, ps, F, b⟩ := G.ok
  refine ⟨fun pins s σ H Q I h => (pe_call F (hr.mono hj) hg G.at_ G.kp b .nil pass0 ha hdb he hpl).run pins s σ H Q I ?_⟩
  show t σ H fun vs H1 => sp (vs ++ []) H1 Q E0
  simp only [List.append_nil]
  exact h
theorem pe_kl {i : Nat} (G : Kp X.prog X.w X.K X.mg X.base k m f sp) (hr : Room j X.A) (hN : X.N[i]? = some x) (hv : Vis X.env.scope x) (ha : PA X (e :: es) t) (hj : k ≤ j := by decide)
    (hdb : (x == ("__debug__" : Str)) = false := by decide) (hcd : (x == ("__classdict__" : Str)) = false := by decide)
    (he : starEach (e :: es) X.env = (false, eval e X.env) :: starEach es X.env := by rfl) (hpl : (backTo pos (starEach es X.env)).any (·.1) = false := by rfl) :
    PE X (.Call (.Name x p) (e :: es) [] pos) (fun σ H Q => σ[i]? = some (some (.ref f)) ∧ tK sp t σ H Q) := by
  obtain ⟨fd, ps, F, b⟩ := G.ok
  refine ⟨fun pins s σ H Q I h => (pe_callL F (hr.mono hj) hN hv G.kp b .nil pass0 ha hdb hcd he hpl).run pins s σ H Q I ⟨h.1, ?_⟩⟩
  show t σ H fun vs H1 => sp (vs ++ []) H1 Q E0
  simp only [List.append_nil]
  exact h.2
theorem pe_km (he : PE X o ta) (c : Cls X.K C) (G : Km X.prog X.w X.K X.mg X.base k C m sp) (hr : Room j X.A) (ha : PA X (e :: es) t) (hj : k ≤ j := by decide)
    (hst : starEach (e :: es) X.env = (false, eval e X.env) :: starEach es X.env := by rfl) (hpl : (backTo pos (starEach es X.env)).any (·.1) = false := by rfl)
    (ht : eval (.Call (.Attribute o m apos) (e :: es) [] pos) X.env = (do
      let ov ← eval o X.env
      standAt apos.atName
      let (f, first) ← holding [ov] (getMethod ov m pl)
      callWith pos f first (backTo pos (starEach (e :: es) X.env)) (backToKw pos (keywordEach [] X.env))) := by rfl) :
    PE X (.Call (.Attribute o m apos) (e :: es) [] pos) (tKm C m sp ta t) := by
  obtain ⟨f, fd, ps, M, F, b⟩ := G.ok
  refine ⟨fun pins s σ H Q I h => (pe_meth (pl := pl) he c M F (hr.mono hj) b .nil pass0 ha hst hpl ht).run pins s σ H Q I ?_⟩
  show ta σ H fun x H1 => ∃ a dx fs, x = .ref a ∧ H1 a = some (.ins C dx fs) ∧ fs.lookup m = none ∧ t σ H1 fun vs H2 => sp (x :: (vs ++ [])) H2 Q E0
  simp only [List.append_nil]
  exact h
theorem pe_km0 (he : PE X o ta) (c : Cls X.K C) (G : Km X.prog X.w X.K X.mg X.base k C m sp) (hr : Room j X.A) (hj : k ≤ j := by decide)
    (ht : eval (.Call (.Attribute o m apos) [] [] pos) X.env = (do
      let ov ← eval o X.env
      standAt apos.atName
      let (f, first) ← holding [ov] (getMethod ov m pl)
      callWith pos f first (backTo pos (starEach [] X.env)) (backToKw pos (keywordEach [] X.env))) := by rfl) :
    PE X (.Call (.Attribute o m apos) [] [] pos) (tKm C m sp ta tNil) := by
  obtain ⟨f, fd, ps, M, F, b⟩ := G.ok
  exact ⟨fun pins s σ H Q I h => (pe_meth0 (pl := pl) he c M F (hr.mono hj) b .nil pass0 ht).run pins s σ H Q I h⟩
theorem pe_kc (G : Kc X.prog X.w X.K X.mg X.base k x C sp) (hr : Room j X.A) (ha : PA X (e :: es) t) (hj : k + 1 ≤ j := by decide) (hg : Gl X x := by rfl)
    (hdb : (x == ("__debug__" : Str)) = false := by decide) (he : starEach (e :: es) X.env = (false, eval e X.env) :: starEach es X.env := by rfl) (hpl : (backTo pos (starEach es X.env)).any (·.1) = false := by rfl) :
    PE X (.Call (.Name x p) (e :: es) [] pos) (tKc C sp t) := by
  obtain ⟨f, fd, ps, M, F, b⟩ := G.ok
  refine ⟨fun pins s σ H Q I h => (pe_make M F (hr.mono hj) hg G.at_ b .nil pass0 ha hdb he hpl).run pins s σ H Q I ?_⟩
  show t σ H fun vs H1 => ∀ x dx, H1 x = none → H1 dx = none → dx ≠ x → sp (.ref x :: (vs ++ [])) (upd (upd H1 dx (.own x)) x (.ins C dx [])) (fun v H2 => v = .non ∧ Q (.ref x) H2) E0
  simp only [List.append_nil]
  exact h
end
end K6

set_option maxRecDepth 100000
set_option maxHeartbeats 4000000
/-! KX: the texts of numbers, pieces and machines. -/
namespace K6
open PySem L2
open TL (tl)

abbrev istr (n : Int) : Str := Str.ofString (toString n)
abbrev slash : Str := Str.ofString "/"
theorem tl_slash : tl slash = [47] := by decide +kernel
theorem tl_istr_nat (n : Nat) : tl (istr (n : Int)) = TL.numL n := TL.tl_num n
theorem tl_istr_neg (n : Nat) : tl (istr (-((n : Int) + 1))) = 45 :: TL.numL (n + 1) := by
  have e : (-((n : Int) + 1)) = Int.negSucc n := by omega
  have h1 : tl (istr (Int.negSucc n)) = (toString (Int.negSucc n)).toList.map Char.toNat := PyProof.Rows.signs_ofString _
  have h2 : (toString (Int.negSucc n) : String) = "-" ++ toString (n + 1) := rfl
  have h3 : tl (istr ((n + 1 : Nat) : Int)) = (toString ((n + 1 : Nat) : Int)).toList.map Char.toNat := PyProof.Rows.signs_ofString _
  have h4 : (toString ((n + 1 : Nat) : Int) : String) = toString (n + 1) := rfl
  rw [e, h1, h2, String.toList_append, List.map_append, ← tl_istr_nat, h3, h4]
  rfl
/-- a bounded number's text: digits, or a minus and digits -/
theorem istr_cases (n : Int) : (∃ m : Nat, n = m ∧ tl (istr n) = TL.numL m) ∨ (∃ m : Nat, n = -((m : Int) + 1) ∧ tl (istr n) = 45 :: TL.numL (m + 1)) := by
  rcases Int.lt_or_le n 0 with h | h
  · exact .inr ⟨(-n - 1).toNat, by omega, by
      have e : n = -(((-n - 1).toNat : Int) + 1) := by omega
      have z := tl_istr_neg (-n - 1).toNat
      rw [← e] at z
      exact z⟩
  · exact .inl ⟨n.toNat, by omega, by
      have e : n = ((n.toNat : Nat) : Int) := by omega
      have z := tl_istr_nat n.toNat
      rw [← e] at z
      exact z⟩
theorem numL_le {n : Nat} (h : n ≤ 1000000) : (TL.numL n).length ≤ 7 := TL.numL_len (by decide) (by omega)
theorem istr_len {n : Int} (h : n.natAbs ≤ 1000000) : (istr n).length ≤ 8 := by
  have e : (istr n).length = (tl (istr n)).length := TL.len_tl _
  rw [e]
  rcases istr_cases n with ⟨m, rfl, q⟩ | ⟨m, rfl, q⟩
  · rw [q]
    have := numL_le (n := m) (by omega)
    omega
  · rw [q, List.length_cons]
    have := numL_le (n := m + 1) (by omega)
    omega
theorem istr_free {n : Int} {s : Nat} (h : s < 45 ∨ (45 < s ∧ s < 48) ∨ 57 < s) : s ∉ tl (istr n) := PyProof.Rows.int_text_free' s ⟨by omega, by omega⟩ n
theorem istr_int {n : Int} (h : n.natAbs ≤ 1000000) : intText? (istr n) = some n := by
  have hl := istr_len h
  rcases istr_cases n with ⟨m, rfl, q⟩ | ⟨m, rfl, q⟩
  · exact TL.int_num (by have := numL_le (n := m) (by omega); omega)
  · have z := intText_neg (x := istr (-((m : Int) + 1))) q (TL.numL_digits _) (TL.numL_ne _) (by omega)
    rw [TL.numL_val] at z
    rw [z]
    congr 1
/-- no leading nought but of nought -/
theorem numL_head : ∀ n : Nat, 0 < n → (TL.numL n).head? ≠ some 48 := by
  intro n
  induction n using Nat.strongRecOn with
  | _ n ih =>
    intro h
    by_cases h1 : n < 10
    · rw [TL.numL_lt h1]
      simp
      omega
    · rw [TL.numL_step (by omega), List.head?_append]
      have z := ih (n / 10) (by omega) (by omega)
      have ne := TL.numL_ne (n / 10)
      cases e : TL.numL (n / 10) with
      | nil => exact absurd e ne
      | cons c r =>
        rw [e] at z
        simpa using z

def Num.txt : Num → Str
  | .whole n => istr n
  | .frac a b => istr a ++ slash ++ istr b
theorem tl_frac (a b : Int) : tl (Num.frac a b).txt = tl (istr a) ++ (47 :: tl (istr b)) := by
  show tl (istr a ++ slash ++ istr b) = _
  rw [TL.tl_append, TL.tl_append, tl_slash, List.append_assoc]
  rfl
theorem Num.Ok.len {q : Num} (h : q.Ok) : q.txt.length ≤ 17 := by
  cases q with
  | whole n =>
    have := istr_len (n := n) h
    show (istr n).length ≤ 17
    omega
  | frac a b =>
    obtain ⟨h1, h2, h3, _⟩ := h
    have e : (Num.frac a b).txt.length = (tl (Num.frac a b).txt).length := TL.len_tl _
    rw [e, tl_frac, List.length_append, List.length_cons, ← TL.len_tl, ← TL.len_tl]
    have e1 := istr_len (n := a) h1
    have e2 := istr_len (n := b) (by omega)
    omega
theorem Num.txt_free (q : Num) : 32 ∉ tl q.txt := by
  cases q with
  | whole n => exact istr_free (by omega)
  | frac a b =>
    rw [tl_frac]
    intro h
    rcases List.mem_append.mp h with h | h
    · exact istr_free (by omega) h
    · rcases List.mem_cons.mp h with h | h
      · omega
      · exact istr_free (by omega) h

/-! ### the items of a piece, of a machine -/
def Piece.nums (p : Piece) : List Num := p.rows.flatten ++ p.s
def Piece.items (p : Piece) : List Str := slash :: (p.c.map istr ++ p.nums.map Num.txt)
def allItems (w : Nat) (ps : List Piece) : List Str := istr (w : Int) :: ps.flatMap Piece.items
abbrev blank : Str := Str.ofString " "
def txtOf (w : Nat) (ps : List Piece) : Str := Txt.join blank (allItems w ps)

theorem items_mem {w : Nat} {p : Piece} (hp : p.Ok w) : ∀ x ∈ p.items, 32 ∉ tl x ∧ x.length ≤ 17 := by
  intro x hx
  rcases List.mem_cons.mp hx with rfl | hx
  · exact ⟨by rw [tl_slash]; decide, by rw [TL.len_tl, tl_slash]; decide⟩
  · rcases List.mem_append.mp hx with hx | hx
    · obtain ⟨n, hn, rfl⟩ := List.mem_map.mp hx
      have := hp.cb n hn
      have := istr_len (n := n) (by omega)
      exact ⟨istr_free (by omega), by omega⟩
    · obtain ⟨q, hq, rfl⟩ := List.mem_map.mp hx
      refine ⟨q.txt_free, Num.Ok.len ?_⟩
      rcases List.mem_append.mp hq with hq | hq
      · obtain ⟨r, hr, hqr⟩ := List.mem_flatten.mp hq
        exact (hp.rw r hr).2 q hqr
      · exact hp.so q hq
theorem flatten_len {α : Type} {n : Nat} : ∀ {l : List (List α)}, (∀ r ∈ l, r.length = n) → l.flatten.length = l.length * n
  | [], _ => by simp
  | r :: l, h => by
    rw [List.flatten_cons, List.length_append, h r List.mem_cons_self, flatten_len fun t ht => h t (List.mem_cons_of_mem _ ht), List.length_cons, Nat.add_mul]
    omega
theorem nums_len {w : Nat} {p : Piece} (hp : p.Ok w) : p.nums.length = w * w + w := by
  unfold Piece.nums
  rw [List.length_append, flatten_len (n := w) fun r hr => (hp.rw r hr).1, hp.rl, hp.sl]
theorem items_len {w : Nat} {p : Piece} (hp : p.Ok w) : p.items.length = 1 + w + (w * w + w) := by
  unfold Piece.items
  rw [List.length_cons, List.length_append, List.length_map, List.length_map, hp.cl, nums_len hp]
  omega
theorem flatMap_len {w n : Nat} : ∀ {ps : List Piece}, (∀ p ∈ ps, p.items.length = n) → (ps.flatMap Piece.items).length = ps.length * n
  | [], _ => by simp
  | p :: ps, h => by
    rw [List.flatMap_cons, List.length_append, h p List.mem_cons_self, flatMap_len (w := w) fun t ht => h t (List.mem_cons_of_mem _ ht), List.length_cons, Nat.add_mul]
    omega
theorem all_mem {w : Nat} {ps : List Piece} (hw : w ≤ 2) (h : ∀ p ∈ ps, p.Ok w) : ∀ x ∈ allItems w ps, 32 ∉ tl x ∧ x.length ≤ 17 := by
  intro x hx
  rcases List.mem_cons.mp hx with rfl | hx
  · have := istr_len (n := (w : Int)) (by omega)
    exact ⟨istr_free (by omega), by omega⟩
  · obtain ⟨p, hp, hx⟩ := List.mem_flatMap.mp hx
    exact items_mem (h p hp) x hx
theorem items_le {w : Nat} {p : Piece} (hw : w ≤ 2) (hp : p.Ok w) : p.items.length ≤ 9 := by
  rw [items_len hp]
  have : w = 0 ∨ w = 1 ∨ w = 2 := by omega
  rcases this with rfl | rfl | rfl <;> decide
theorem flatMap_le {w : Nat} (hw : w ≤ 2) : ∀ {ps : List Piece}, (∀ p ∈ ps, p.Ok w) → (ps.flatMap Piece.items).length ≤ ps.length * 9
  | [], _ => by simp
  | p :: ps, h => by
    have h1 := items_le hw (h p List.mem_cons_self)
    have h2 := flatMap_le hw (ps := ps) fun t ht => h t (List.mem_cons_of_mem _ ht)
    rw [List.flatMap_cons, List.length_append, List.length_cons]
    omega
theorem all_len {w : Nat} {ps : List Piece} (hw : w ≤ 2) (h : ∀ p ∈ ps, p.Ok w) (hn : ps.length ≤ 60) : (allItems w ps).length ≤ 541 := by
  have := flatMap_le hw h
  unfold allItems
  rw [List.length_cons]
  omega
theorem sum_le : ∀ {l : List Str} {n : Nat}, (∀ x ∈ l, x.length ≤ n) → (l.map (·.length)).sum ≤ l.length * n
  | [], _, _ => by simp
  | x :: l, n, h => by
    have h1 := h x List.mem_cons_self
    have h2 := sum_le (l := l) (n := n) fun y hy => h y (List.mem_cons_of_mem _ hy)
    rw [List.map_cons, List.sum_cons, List.length_cons, Nat.add_mul]
    omega
/-- the join fits -/
theorem join_fits {w : Nat} {ps : List Piece} (hw : w ≤ 2) (h : ∀ p ∈ ps, p.Ok w) (hn : ps.length ≤ 60) : ((allItems w ps).map (·.length)).sum + (allItems w ps).length * blank.length ≤ 16777216 := by
  have h1 := all_len hw h hn
  have h2 := sum_le (l := allItems w ps) (n := 17) fun x hx => (all_mem hw h x hx).2
  have h3 : blank.length = 1 := by decide +kernel
  rw [h3]
  omega
theorem tl_blank : tl blank = [32] := by decide +kernel
theorem joinL_len {S : List Nat} : ∀ {l : List (List Nat)}, (TL.joinL S l).length ≤ (l.map List.length).sum + l.length * S.length
  | [] => by simp [TL.joinL]
  | [p] => by simp [TL.joinL]
  | p :: q :: r => by
    have ih := joinL_len (S := S) (l := q :: r)
    have e : TL.joinL S (p :: q :: r) = p ++ (S ++ TL.joinL S (q :: r)) := rfl
    rw [e, List.length_append, List.length_append]
    rw [List.map_cons, List.sum_cons, List.length_cons, Nat.add_mul]
    omega
theorem txt_len {w : Nat} {ps : List Piece} (hw : w ≤ 2) (h : ∀ p ∈ ps, p.Ok w) (hn : ps.length ≤ 60) : (txtOf w ps).length ≤ 16777000 := by
  have h1 := all_len hw h hn
  have h2 := sum_le (l := allItems w ps) (n := 17) fun x hx => (all_mem hw h x hx).2
  have e : (txtOf w ps).length = (TL.joinL (tl blank) ((allItems w ps).map tl)).length := by
    unfold txtOf
    rw [TL.len_tl, TL.join_eq, TL.tl_join]
  have h3 := joinL_len (S := tl blank) (l := (allItems w ps).map tl)
  have e2 : ((allItems w ps).map tl).map List.length = (allItems w ps).map (·.length) := by
    rw [List.map_map]
    apply List.map_congr_left
    intro x _
    exact (TL.len_tl x).symm
  rw [e2, tl_blank, List.length_map] at h3
  rw [e, tl_blank]
  simp only [List.length_cons, List.length_nil] at h3
  omega
/-- the text, split at its blanks -/
theorem txt_split {w : Nat} {ps : List Piece} (hw : w ≤ 2) (h : ∀ p ∈ ps, p.Ok w) : Txt.split (txtOf w ps) blank = allItems w ps :=
  TL.split_join (s := 32) (S := []) tl_blank (by decide +kernel) (by unfold allItems; simp) fun p hp => (all_mem hw h p hp).1
end K6

set_option maxRecDepth 100000
set_option maxHeartbeats 4000000
/-! KX2: how long repr writes such data. -/
namespace K6
open PySem L2

theorem textFrom_le : ∀ (ts : List Str) (k : Nat) (acc : Str), (textFrom k acc ts).length ≤ acc.length + (ts.map fun t => t.length + 2).sum
  | [], k, acc => by
    show acc.length ≤ _
    simp
  | t :: r, k, acc => by
    have z := textFrom_le r (k + 1) (acc ++ (if k > 0 then ", " else "" : String) ++ t)
    have e : (acc ++ (if k > 0 then ", " else "" : String) ++ t).length ≤ acc.length + 2 + t.length := by
      rw [strLen_append, strLen_append]
      split
      · show acc.length + 2 + t.length ≤ _
        omega
      · show acc.length + 0 + t.length ≤ _
        omega
    show (textFrom (k + 1) _ r).length ≤ _
    rw [List.map_cons, List.sum_cons]
    omega
theorem listText_le (ts : List Str) : (listText ts).length ≤ 2 + (ts.map fun t => t.length + 2).sum := by
  have z := textFrom_le ts 0 "["
  have e1 : (("[" : String) : Str).length = 1 := rfl
  have e2 : (("]" : String) : Str).length = 1 := rfl
  unfold listText
  rw [strLen_append, e2]
  rw [e1] at z
  omega
theorem piled_sum : ∀ ts : List Str, piled ts = (ts.map fun t => t.length + 2).sum
  | [] => rfl
  | t :: r => by rw [piled_cons, piled_sum r, List.map_cons, List.sum_cons]
theorem tupleText_le (ts : List Str) : (tupleText ts).length ≤ 3 + (ts.map fun t => t.length + 2).sum := by
  have e1 : (("(" : String) : Str).length = 1 := rfl
  have e3 : ((if ts.length == 1 then ",)" else ")" : String) : Str).length ≤ 2 := by split <;> decide
  unfold tupleText
  rw [strLen_append, strLen_append, e1]
  cases ts with
  | nil =>
    have e4 : (Str.join ((", " : String) : Str) []).length = 0 := rfl
    rw [e4]
    omega
  | cons t r =>
    have z := join_length_add (t :: r) (by simp)
    rw [piled_sum] at z
    omega
mutual
theorem shown_le : ∀ d : PyData, nm d = true → d.shown.length ≤ wt d
  | .int i, h => by
    have h1 : i.natAbs ≤ 1000000 := by simpa [nm] using h
    simp only [PyData.shown, wt]
    exact istr_len h1
  | .tuple ds, h => by
    have z := shownAll_le ds (by simpa only [nm] using h)
    simp only [PyData.shown, wt]
    have := tupleText_le (PyData.shownAll ds)
    omega
  | .none, h | .bool _, h | .str _, h | .list _, h | .dict _, h => by simp [nm] at h
theorem shownAll_le : ∀ ds : List PyData, nmAll ds = true → ((PyData.shownAll ds).map fun t => t.length + 2).sum ≤ wtAll ds
  | [], _ => by simp [PyData.shownAll, wtAll]
  | d :: ds, h => by
    rw [nmAll, Bool.and_eq_true] at h
    have h1 := shown_le d h.1
    have h2 := shownAll_le ds h.2
    simp only [PyData.shownAll, wtAll, List.map_cons, List.sum_cons]
    omega
end
theorem wtAll_le {α : Type} {f : α → PyData} {b : Nat} : ∀ {l : List α}, (∀ x ∈ l, wt (f x) ≤ b) → wtAll (l.map f) ≤ l.length * (b + 2)
  | [], _ => by simp [wtAll]
  | x :: l, h => by
    have h1 := h x List.mem_cons_self
    have h2 := wtAll_le (l := l) fun y hy => h y (List.mem_cons_of_mem _ hy)
    rw [List.map_cons, wtAll, List.length_cons, Nat.add_mul]
    omega
theorem Num.wt_le (q : Num) : wt q.dat ≤ 23 := by
  cases q <;> simp [Num.dat, wt, wtAll]
theorem row_wt {r : List Num} (h : r.length ≤ 2) : wt (rowD r) ≤ 53 := by
  have z := wtAll_le (f := Num.dat) (b := 23) (l := r) fun x _ => x.wt_le
  simp only [rowD, wt]
  omega
theorem Piece.wt_le {n : Nat} {p : Piece} (hp : p.Ok n) (hn : n ≤ 2) : wt p.dat ≤ 200 := by
  have h1 : wtAll (p.c.map PyData.int) ≤ p.c.length * (8 + 2) := wtAll_le fun x _ => by simp [wt]
  have h2 : wtAll (p.rows.map rowD) ≤ p.rows.length * (53 + 2) := wtAll_le fun r hr => row_wt (by rw [(hp.rw r hr).1]; exact hn)
  have h3 : wt (rowD p.s) ≤ 53 := row_wt (by rw [hp.sl]; exact hn)
  rw [hp.cl] at h1
  rw [hp.rl] at h2
  simp only [Piece.dat, wt, wtAll]
  omega
/-- [wide, pieces] as data -/
def wpD (n : Nat) (ps : List Piece) : PyData := .list [.int (n : Int), .tuple (dats ps)]
theorem wp_nm {n : Nat} {ps : List Piece} (hn : n ≤ 2) (h : ∀ p ∈ ps, p.Ok n) : nmAll [.int (n : Int), .tuple (dats ps)] = true := by
  simp only [nmAll, nm, Bool.and_eq_true, Bool.and_true]
  exact ⟨decide_eq_true (by omega), dats_nm h⟩
theorem wp_shows {n : Nat} {ps : List Piece} (hn : n ≤ 2) (h : ∀ p ∈ ps, p.Ok n) : (wpD n ps).showable = true := by
  simp only [wpD, PyData.showable]
  exact nm_showsAll _ (wp_nm hn h)
theorem wp_noDict {n : Nat} {ps : List Piece} (hn : n ≤ 2) (h : ∀ p ∈ ps, p.Ok n) : (wpD n ps).hasDict = false := by
  refine PyData.hasDict_of_canLay _ ?_
  simp only [wpD, PyData.canLay0]
  exact nm_layAll _ (wp_nm hn h)
theorem wp_depth {n : Nat} {ps : List Piece} : (wpD n ps).depth ≤ 60 := by
  have z : PyData.depthAll [.int (n : Int), .tuple (dats ps)] ≤ 5 := depthAll_le fun d hd => by
    simp only [List.mem_cons, List.not_mem_nil, or_false] at hd
    rcases hd with rfl | rfl
    · simp [PyData.depth]
    · have := dats_depth ps
      simp only [PyData.depth]
      omega
  simp only [wpD, PyData.depth]
  omega
theorem wp_len {n : Nat} {ps : List Piece} (hn : n ≤ 2) (h : ∀ p ∈ ps, p.Ok n) (hl : ps.length ≤ 60) : (wpD n ps).shown.length ≤ sizeLine := by
  have z := shownAll_le _ (wp_nm hn h)
  have z2 : wtAll (dats ps) ≤ ps.length * (200 + 2) := wtAll_le fun p hp => Piece.wt_le (h p hp) hn
  have z3 := listText_le (PyData.shownAll [.int (n : Int), .tuple (dats ps)])
  simp only [wtAll, wt] at z
  have big : (20000 : Nat) ≤ sizeLine := by decide
  simp only [wpD, PyData.shown]
  omega

/-! ### (wide, pieces) -/
def tdD (e : Nat × List Piece) : PyData := .tuple [.int (e.1 : Int), .tuple (dats e.2)]
structure Good (n : Nat) (ps : List Piece) : Prop where
  n1 : 1 ≤ n
  n2 : n ≤ 2
  ok : ∀ q ∈ ps, q.Ok n
  nd : ps.Nodup
  l1 : 1 ≤ ps.length
  l2 : ps.length ≤ 60
theorem td_nm {e : Nat × List Piece} (h : Good e.1 e.2) : nm (tdD e) = true := by
  simp only [tdD, nm]
  exact wp_nm h.n2 h.ok
theorem td_shaped {e : Nat × List Piece} (h : Good e.1 e.2) : SeqAt.shaped (tdD e) = true := by
  refine shaped_of (td_nm h) ?_
  have := wp_depth (n := e.1) (ps := e.2)
  simp only [wpD, PyData.depth] at this
  simp only [tdD, PyData.depth]
  omega
theorem td_eqv {e f : Nat × List Piece} (h : Good e.1 e.2) (h' : Good f.1 f.2) : PyData.eqv (tdD e) (tdD f) = (decide (e.1 = f.1) && decide (e.2 = f.2)) := by
  have z := dats_eqv h.ok h'.ok
  simp only [tdD, PyData.eqv, PyData.eqvAll, Bool.and_true] at z ⊢
  rw [z]
  congr 1
  rw [Bool.eq_iff_iff, beq_iff_eq, decide_eq_true_eq]
  omega
end K6

set_option maxRecDepth 100000
set_option maxHeartbeats 4000000
/-! KC: comprehensions without a test, by what stands in the new list. -/
namespace K6
open PySem PySem.Spec PyProof.Rows L2

section
variable {J : It} {n : Nat} {G : Hp → Prop} {Y : Nat → Hp → V → Hp → Prop} {g : TG} {te : TE} {vs : List Nat} {σ : L2.St} {H1 : Hp} {D : Addr} {Qd : Hp → Prop}
/-- R i acc H: behind i turns the list acc stands at D -/
theorem lc_map (w : Walk J n G Y) (hn : n < sizeLine) (R : Nat → List V → Hp → Prop) (h0 : R 0 [] (upd H1 D (.lst []))) (hG : ∀ i acc H, i ≤ n → R i acc H → H D = some (.lst acc) → G H)
    (hs : ∀ i acc x H H' (Post : V → Hp → Prop), i < n → R i acc H → H D = some (.lst acc) → acc.length = i → Y i H x H' → (∀ y H4, H4 D = some (.lst acc) → R (i + 1) (acc ++ [y]) (upd H4 D (.lst (acc ++ [y]))) → Post y H4) →
      g x (wipe σ vs) H' fun σ2 H2 => wipe σ2 vs = wipe σ vs ∧ te σ2 H2 Post) (hd : ∀ acc H, R n acc H → H D = some (.lst acc) → acc.length = n → Qd H) :
    ∃ W : Nat → Nat → Hp → Prop, (∃ m, W 0 m (upd H1 D (.lst []))) ∧ ∀ i m H, W i m H →
      (J.stop i H ∧ Qd H) ∨ (J.go i H ∧ ∃ Nx : Hp → Prop, (∀ H', Nx H' → ∃ m', m' < m ∧ W (i + 1) m' H') ∧ ∀ x H', J.yld i H x H' → g x (wipe σ vs) H' fun σ2 H2 => wipe σ2 vs = wipe σ vs ∧ tYes σ2 H2 fun b H3 =>
        if b = true then te σ2 H3 fun y H4 => ∃ acc, H4 D = some (.lst acc) ∧ acc.length < sizeLine ∧ Nx (upd H4 D (.lst (acc ++ [y]))) else Nx H3) := by
  refine lc_it w (fun i H => ∃ acc, H D = some (.lst acc) ∧ acc.length = i ∧ R i acc H) ⟨[], upd_same, rfl, h0⟩ (fun i H hi ⟨acc, h1, _, h3⟩ => hG i acc H hi h3 h1) ?_ (fun H ⟨acc, h1, h2, h3⟩ => hd acc H h3 h1 h2)
  rintro i x H H' hi ⟨acc, h1, h2, h3⟩ hy
  exact hs i acc x H H' (fun y H4 => ∃ acc, H4 D = some (.lst acc) ∧ acc.length < sizeLine ∧ ∃ acc2, (upd H4 D (.lst (acc ++ [y]))) D = some (.lst acc2) ∧ acc2.length = i + 1 ∧ R (i + 1) acc2 (upd H4 D (.lst (acc ++ [y])))) hi h3 h1 h2 hy
    (fun y H4 z1 z2 => ⟨acc, z1, by omega, acc ++ [y], upd_same, by rw [List.length_append, h2]; rfl, z2⟩)
end

/-- one more at D: what stood but at D stands -/
theorem same_put {H1 H4 : Hp} {D : Addr} {o : HO} (hD : H1 D = none) (e : Same H1 H4) : Same H1 (upd H4 D o) := fun b u hb => by
  rw [upd_ne (ne_of_none hb hD)]
  exact e b u hb
theorem but_put {p : Addr} {H1 H4 : Hp} {D : Addr} {o : HO} (hD : H1 D = none) (e : But p H1 H4) : But p H1 (upd H4 D o) := fun b u hb n => by
  rw [upd_ne (ne_of_none hb hD)]
  exact e b u hb n
theorem last_get {acc : List V} {y v : V} {j : Nat} (h : (acc ++ [y])[j]? = some v) : (j < acc.length ∧ acc[j]? = some v) ∨ (j = acc.length ∧ v = y) := by
  rcases Nat.lt_or_ge j acc.length with hlt | hge
  · rw [List.getElem?_append_left hlt] at h
    exact .inl ⟨hlt, h⟩
  · rw [List.getElem?_append_right hge] at h
    cases q : j - acc.length with
    | zero =>
      rw [q] at h
      exact .inr ⟨by omega, by simpa using h.symm⟩
    | succ m =>
      rw [q] at h
      simp at h
section
variable {J : It} {n : Nat} {G : Hp → Prop} {Y : Nat → Hp → V → Hp → Prop} {g : TG} {te : TE} {vs : List Nat} {σ : L2.St} {H1 : Hp} {D : Addr} {Qd : Hp → Prop}
/-- elements that only make objects; T i v H: v is the i-th -/
theorem lc_same (w : Walk J n G Y) (hn : n < sizeLine) (hD : H1 D = none) (T : Nat → V → Hp → Prop) (tput : ∀ i v H acc acc', H D = some (.lst acc) → T i v H → T i v (upd H D (.lst acc'))) (tsame : ∀ i v H H', Same H H' → T i v H → T i v H')
    (hG : ∀ acc H, Same H1 H → H D = some (.lst acc) → G H) (hY : ∀ i H x H', Y i H x H' → H' = H)
    (hs : ∀ i acc x H (Post : V → Hp → Prop), i < n → Same H1 H → H D = some (.lst acc) → Y i H x H → (∀ y H4, Same H H4 → T i y H4 → Post y H4) → g x (wipe σ vs) H fun σ2 H2 => wipe σ2 vs = wipe σ vs ∧ te σ2 H2 Post)
    (hd : ∀ ys H, ys.length = n → (∀ i v, ys[i]? = some v → T i v H) → Same H1 H → H D = some (.lst ys) → Qd H) :
    ∃ W : Nat → Nat → Hp → Prop, (∃ m, W 0 m (upd H1 D (.lst []))) ∧ ∀ i m H, W i m H →
      (J.stop i H ∧ Qd H) ∨ (J.go i H ∧ ∃ Nx : Hp → Prop, (∀ H', Nx H' → ∃ m', m' < m ∧ W (i + 1) m' H') ∧ ∀ x H', J.yld i H x H' → g x (wipe σ vs) H' fun σ2 H2 => wipe σ2 vs = wipe σ vs ∧ tYes σ2 H2 fun b H3 =>
        if b = true then te σ2 H3 fun y H4 => ∃ acc, H4 D = some (.lst acc) ∧ acc.length < sizeLine ∧ Nx (upd H4 D (.lst (acc ++ [y]))) else Nx H3) := by
  refine lc_map w hn (fun i acc H => Same H1 H ∧ ∀ j v, acc[j]? = some v → T j v H) ⟨Same.one hD, fun j v h => by simp at h⟩ (fun i acc H _ h1 h2 => hG acc H h1.1 h2) ?_ (fun acc H h1 h2 h3 => hd acc H h3 h1.2 h1.1 h2)
  rintro i acc x H H' Post hi ⟨h1, h2⟩ h3 h4 hy post
  have e := hY i H x H' hy
  subst e
  refine hs i acc x H' Post hi h1 h3 hy fun y H4 z1 z2 => post y H4 (z1 D _ h3) ⟨same_put hD (h1.trans z1), fun j v hj => ?_⟩
  have h5 : H4 D = some (.lst acc) := z1 D _ h3
  rcases last_get hj with ⟨_, q⟩ | ⟨q, rfl⟩
  · exact tput _ _ _ _ _ h5 (tsame _ _ _ _ z1 (h2 j v q))
  · rw [h4] at q
    subst q
    exact tput _ _ _ _ _ h5 z2
end

/-! ### two sources, one within the other -/
section
variable {J J1 : It} {n n1 : Nat} {G G1 : Hp → Prop} {Y Y1 : Nat → Hp → V → Hp → Prop} {g g1 : TG} {te : TE} {wi1 : TI} {vs vs1 : List Nat} {σ : L2.St} {H1 H4 : Hp} {D : Addr} {Qd Nx : Hp → Prop}
def Inner (g1 : TG) (te : TE) (vs1 : List Nat) (D : Addr) (J1 : It) (H4 : Hp) (Nx : Hp → Prop) (σ2 : L2.St) : Prop := ∃ W1 : Nat → Nat → Hp → Prop, (∃ m, W1 0 m H4) ∧ ∀ j k H, W1 j k H →
  (J1.stop j H ∧ Nx H) ∨ (J1.go j H ∧ ∃ Nx1 : Hp → Prop, (∀ H', Nx1 H' → ∃ k', k' < k ∧ W1 (j + 1) k' H') ∧ ∀ x H', J1.yld j H x H' → g1 x (wipe σ2 vs1) H' fun σ3 H5 => wipe σ3 vs1 = wipe σ2 vs1 ∧ tYes σ3 H5 fun b H6 =>
    if b = true then te σ3 H6 fun y H7 => ∃ acc, H7 D = some (.lst acc) ∧ acc.length < sizeLine ∧ Nx1 (upd H7 D (.lst (acc ++ [y]))) else Nx1 H6)
theorem inner_it {σ2 : L2.St} (w : Walk J1 n1 G1 Y1) (R : Nat → List V → Hp → Prop) (h0 : ∃ acc, H4 D = some (.lst acc) ∧ R 0 acc H4) (hG : ∀ i acc H, i ≤ n1 → R i acc H → H D = some (.lst acc) → G1 H) (hz : ∀ i acc H, i < n1 → R i acc H → acc.length < sizeLine)
    (hs : ∀ i acc x H H' (Post : V → Hp → Prop), i < n1 → R i acc H → H D = some (.lst acc) → Y1 i H x H' → (∀ y H7, H7 D = some (.lst acc) → R (i + 1) (acc ++ [y]) (upd H7 D (.lst (acc ++ [y]))) → Post y H7) → g1 x (wipe σ2 vs1) H' fun σ3 H5 => wipe σ3 vs1 = wipe σ2 vs1 ∧ te σ3 H5 Post)
    (hd : ∀ acc H, R n1 acc H → H D = some (.lst acc) → Nx H) : Inner g1 te vs1 D J1 H4 Nx σ2 := by
  obtain ⟨acc0, a1, a2⟩ := h0
  refine ⟨fun i m H => m = n1 - i ∧ i ≤ n1 ∧ ∃ acc, H D = some (.lst acc) ∧ R i acc H, ⟨n1, by simp, Nat.zero_le _, acc0, a1, a2⟩, ?_⟩
  rintro i m H ⟨rfl, hi, acc, h1, h3⟩
  have q := hG i acc H hi h3 h1
  by_cases hlt : i < n1
  · refine .inr ⟨w.goes i H hlt q, fun H' => ∃ acc, H' D = some (.lst acc) ∧ R (i + 1) acc H', fun H' p' => ⟨n1 - (i + 1), by omega, rfl, hlt, p'⟩, fun x H' y => ?_⟩
    exact hs i acc x H H' (fun y H7 => ∃ acc, H7 D = some (.lst acc) ∧ acc.length < sizeLine ∧ ∃ acc2, (upd H7 D (.lst (acc ++ [y]))) D = some (.lst acc2) ∧ R (i + 1) acc2 (upd H7 D (.lst (acc ++ [y])))) hlt h3 h1 (w.yields i H x H' hlt q y)
      (fun y H7 z1 z2 => ⟨acc, z1, hz i acc H hlt h3, acc ++ [y], upd_same, z2⟩)
  · have e : i = n1 := by omega
    subst e
    exact .inl ⟨w.stops H q, hd acc H h3 h1⟩
theorem outer_it (w : Walk J n G Y) (R : Nat → Hp → Prop) (h0 : R 0 (upd H1 D (.lst []))) (hG : ∀ i H, i ≤ n → R i H → G H)
    (hs : ∀ i x H H', i < n → R i H → Y i H x H' → g x (wipe σ vs) H' fun σ2 H2 => wipe σ2 vs = wipe σ vs ∧ wi1 σ2 H2 fun J1 H4 => Inner g1 te vs1 D J1 H4 (R (i + 1)) σ2) (hd : ∀ H, R n H → Qd H) :
    ∃ W : Nat → Nat → Hp → Prop, (∃ m, W 0 m (upd H1 D (.lst []))) ∧ ∀ i m H, W i m H →
      (J.stop i H ∧ Qd H) ∨ (J.go i H ∧ ∃ Nx : Hp → Prop, (∀ H', Nx H' → ∃ m', m' < m ∧ W (i + 1) m' H') ∧ ∀ x H', J.yld i H x H' → g x (wipe σ vs) H' fun σ2 H2 => wipe σ2 vs = wipe σ vs ∧ tYes σ2 H2 fun b H3 =>
        if b = true then wi1 σ2 H3 fun J1 H4 => ∃ W1 : Nat → Nat → Hp → Prop, (∃ m, W1 0 m H4) ∧ ∀ j k H, W1 j k H →
          (J1.stop j H ∧ Nx H) ∨ (J1.go j H ∧ ∃ Nx1 : Hp → Prop, (∀ H', Nx1 H' → ∃ k', k' < k ∧ W1 (j + 1) k' H') ∧ ∀ x H', J1.yld j H x H' → g1 x (wipe σ2 vs1) H' fun σ3 H5 => wipe σ3 vs1 = wipe σ2 vs1 ∧ tYes σ3 H5 fun b H6 =>
            if b = true then te σ3 H6 fun y H7 => ∃ acc, H7 D = some (.lst acc) ∧ acc.length < sizeLine ∧ Nx1 (upd H7 D (.lst (acc ++ [y]))) else Nx1 H6)
        else Nx H3) := by
  refine ⟨fun i m H => m = n - i ∧ i ≤ n ∧ R i H, ⟨n, by simp, Nat.zero_le _, h0⟩, ?_⟩
  rintro i m H ⟨rfl, hi, p⟩
  have q := hG i H hi p
  by_cases hlt : i < n
  · exact .inr ⟨w.goes i H hlt q, R (i + 1), fun H' p' => ⟨n - (i + 1), by omega, rfl, hlt, p'⟩, fun x H' y => hs i x H H' hlt p (w.yields i H x H' hlt q y)⟩
  · have e : i = n := by omega
    subst e
    exact .inl ⟨w.stops H q, hd H p⟩
end
end K6

set_option maxRecDepth 100000
set_option maxHeartbeats 4000000
/-! KD1: the defs of checks and numbers. -/
namespace K6
open PySem PySem.Spec PyProof.Rows L2

/-! ### what of the top is wanted: a def by its name -/
structure Fx (K : PySem.W.Frag) (mg : Str → Option Value) (x : Str) (st : Stmt) (f : Addr) : Prop where
  fn : ∃ fd, Fun K x x st f fd
  at_ : mg x = some (.ref f)
/-- no name of the module's hides these built-ins -/
structure Bt (mg : Str → Option Value) : Prop where
  isi : mg "isinstance" = none
  int_ : mg "int" = none
  bool_ : mg "bool" = none
  list_ : mg "list" = none
  tuple_ : mg "tuple" = none
  str_ : mg "str" = none
  len_ : mg "len" = none
  all_ : mg "all" = none
  abs_ : mg "abs" = none
  set_ : mg "set" = none
  range_ : mg "range" = none
  zip_ : mg "zip" = none
  repr_ : mg "repr" = none
section
variable {P : Program} {w : World} {K : PySem.W.Frag} {mg : Str → Option Value} {base : Heap}
theorem kp_mk {x : Str} {st : Stmt} {f : Addr} {N ps : List Str} {k : Nat} {sp : Sp} (F : Fx K mg x st f) (S : FnScope N ps (defScope st)) (len : ∀ vs H Q E, sp vs H Q E → vs.length = ps.length)
    (bind : ∀ (kV doc pm : Value) (an : Option Addr) (cdv ct : Value) (us : List Value), us.length = ps.length → bindArgs (PySem.W.fnOf x x (defArgs st) (defBody st) (defScope st) .none kV doc pm an cdv ct) ⟨us, []⟩ = pure (ps.zip us))
    (hbody : ∀ (cdv : Value) (A : Around) (outer : List Env) (s : Shared) (H : Hp) (vs : List V) (Q : VK) (E : XK), Room k (A.deeper (envOfC x (defScope st) s.heap.objs.size f cdv)) → sp vs H Q E →
      ∃ t, PSs (cxOf CX0 P w K mg base N x (defScope st) f cdv A outer s H E).nox (defBody st) t ∧ t { nx := fun _ H' => Q .non H', rt := Q } (start N vs) H) : Kp P w K mg base (k + 1) x f sp := by
  obtain ⟨fd, F1⟩ := F.fn
  exact ⟨⟨fd, ps, F1.ok S len hbody, F1.binds bind⟩, F.at_, F1.kp⟩

/-! ### isinstance with one built-in class -/
theorem pe_isi {X : Cx} {e : Expr} {te : TE} {ty : String} {y : Str} {p p2 pos : Pos} (he : PE X e te) (hm : X.mg "isinstance" = none) (hy : X.mg y = none) (hg : Gl X "isinstance") (hgy : Gl X y) (hv : bootBuiltins y = some (.type ty)) (hn : y ≠ "__name__") (hdb : (y == ("__debug__" : Str)) = false)
    (h1 : starEach [e, .Name y p2] X.env = (false, eval e X.env) :: starEach [.Name y p2] X.env := by rfl) (h2 : starEach [.Name y p2] X.env = (false, eval (.Name y p2) X.env) :: starEach [] X.env := by rfl) (h3 : (backTo pos (starEach [.Name y p2] X.env)).any (·.1) = false := by rfl) :
    PE X (.Call (.Name "isinstance" p) [e, .Name y p2] [] pos) (fun σ H Q => te σ H fun x H1 => ∃ t b, TyX X.K H1 x t ∧ PySem.W.kitOne X.K t (.type ty) = some b ∧ Q (.bl b) H1) := by
  refine ⟨fun pins s σ H Q I h => (pe_callB call_isi hg hm PyProof.Rows.boot_isinstance (pa_cons he (pa_cons (pe_bltn (v := .ty ty) hgy hy hv rfl hn hdb) pa_nil h2) h1) (by decide) (by decide) h1 h3).run pins s σ H Q I ?_⟩
  have key : ∀ x H1, (∃ t b, TyX X.K H1 x t ∧ PySem.W.kitOne X.K t (.type ty) = some b ∧ Q (.bl b) H1) → rIsi X.K [x, .ty ty] H1 Q := fun x H1 ⟨t, b, q1, q2, q3⟩ => ⟨x, .ty ty, t, .type ty, b, rfl, .ty ty, q1, q2, q3⟩
  show te σ H fun x H1 => rIsi X.K [x, .ty ty] H1 Q
  have e0 : (fun x H1 => ∃ t b, TyX X.K H1 x t ∧ PySem.W.kitOne X.K t (.type ty) = some b ∧ Q (.bl b) H1) = (fun x H1 => rIsi X.K [x, .ty ty] H1 Q) := by
    funext x H1
    refine propext ⟨key x H1, ?_⟩
    rintro ⟨x', c, t, u, b, e1, e2, e3, e4, e5⟩
    cases e1
    cases e2
    exact ⟨t, b, e3, e4, e5⟩
  rw [← e0]
  exact h

/-! ### checks -/
def spIsInteger (K : PySem.W.Frag) : Sp := fun vs H Q _ => ∃ (v : V) (b : Bool), vs = [v] ∧ ((∃ i, v = .int i ∧ b = true) ∨ (∃ a xs, v = .ref a ∧ SqT K H a xs ∧ b = false)) ∧ Q (.bl b) H
theorem scIsInteger : FnScope ["value"] ["value"] (defScope sIsInteger) := ⟨rfl, rfl, rfl, by decide +kernel, rfl, by decide +kernel, by decide +kernel⟩
theorem ok_isInteger {f : Addr} (T : Bt mg) (F : Fx K mg "is_integer" sIsInteger f) : Kp P w K mg base 1 "is_integer" f (spIsInteger K) := by
  refine kp_mk F scIsInteger (fun vs H Q E h => ?_) (fun _ _ _ _ _ _ us hl => match us, hl with | [_], _ => rfl) (fun cdv A outer s H vs Q E hr h => ?_)
  · obtain ⟨v, b, rfl, _⟩ := h
    rfl
  · obtain ⟨v, b, rfl, hv, k⟩ := h
    refine ⟨_, pss_one (ps_ret (pe_and (pe_isi (pv 0) T.isi T.int_ (by rfl) (by rfl) PyProof.Rows.boot_int (by decide) (by decide))
      (pe_one (pe_not (pe_isi (pv 0) T.isi T.bool_ (by rfl) (by rfl) PyProof.Rows.boot_bool (by decide) (by decide)))))), ?_⟩
    rcases hv with ⟨i, rfl, rfl⟩ | ⟨a, xs, rfl, ht, rfl⟩
    · refine ⟨_, rfl, .type "int", true, .base (.int i), kit_ty (by decide +kernel), true, rfl, iteT ?_⟩
      refine ⟨_, rfl, .type "int", false, .base (.int i), kit_ty (by decide +kernel), false, rfl, ?_⟩
      exact k
    · refine ⟨_, rfl, .type "tuple", false, tyT ht, kit_ty (by decide +kernel), false, rfl, iteF ?_⟩
      exact k

def spIsList (K : PySem.W.Frag) : Sp := fun vs H Q _ => ∃ (v : V) (b : Bool), vs = [v] ∧ ((∃ i, v = .int i ∧ b = false) ∨ (∃ a xs, v = .ref a ∧ (SqT K H a xs ∨ SqL K H a xs) ∧ b = true)) ∧ ∀ H', Same H H' → Q (.bl b) H'
theorem scIsList : FnScope ["value"] ["value"] (defScope sIsList) := ⟨rfl, rfl, rfl, by decide +kernel, rfl, by decide +kernel, by decide +kernel⟩
theorem ok_isList {f : Addr} (T : Bt mg) (F : Fx K mg "is_list" sIsList f) : Kp P w K mg base 1 "is_list" f (spIsList K) := by
  refine kp_mk F scIsList (fun vs H Q E h => ?_) (fun _ _ _ _ _ _ us hl => match us, hl with | [_], _ => rfl) (fun cdv A outer s H vs Q E hr h => ?_)
  · obtain ⟨v, b, rfl, _⟩ := h
    rfl
  · obtain ⟨v, b, rfl, hv, k⟩ := h
    refine ⟨_, pss_one (ps_ret (pe_callB call_isiT (by rfl) T.isi PyProof.Rows.boot_isinstance (pa_cons (pv 0) (pa_cons (pe_tup (pa_cons (pe_bltn (v := .ty "list") (by rfl) T.list_ PyProof.Rows.boot_list rfl)
      (pa_cons (pe_bltn (v := .ty "tuple") (by rfl) T.tuple_ PyProof.Rows.boot_tuple rfl) pa_nil))) pa_nil)))), ?_⟩
    refine ⟨_, rfl, by show 2 ≤ sizeLine; decide, fun p hp => ?_⟩
    have s1 : Same H (upd H p (.tup [.ty "list", .ty "tuple"])) := Same.one hp
    rcases hv with ⟨i, rfl, rfl⟩ | ⟨a, xs, rfl, ht | hl, rfl⟩
    · exact ⟨_, p, _, .type "int", [.type "list", .type "tuple"], false, rfl, upd_same, .cons (.ty "list") (.cons (.ty "tuple") .nil), .base (.int i),
        kitAny_cons (b := false) (kit_ty (by decide +kernel)) (fun _ => kitAny_cons (b := false) (kit_ty (by decide +kernel)) (fun _ => kitAny_nil) (fun z => by cases z)) (fun z => by cases z), k _ s1⟩
    · exact ⟨_, p, _, .type "tuple", [.type "list", .type "tuple"], true, rfl, upd_same, .cons (.ty "list") (.cons (.ty "tuple") .nil), tyT (sqT_same s1 ht),
        kitAny_cons (b := false) (kit_ty (by decide +kernel)) (fun _ => kitAny_cons (b := true) (kit_ty (by decide +kernel)) (fun z => by cases z) (fun _ => rfl)) (fun z => by cases z), k _ s1⟩
    · exact ⟨_, p, _, .type "list", [.type "list", .type "tuple"], true, rfl, upd_same, .cons (.ty "list") (.cons (.ty "tuple") .nil), tyL (sqL_same s1 hl),
        kitAny_cons (b := true) (kit_ty (by decide +kernel)) (fun z => by cases z) (fun _ => rfl), k _ s1⟩

/-- a bound, or none -/
def oV : Option Int → V
  | none => .non
  | some i => .int i
def spIsWithin : Sp := fun vs H Q _ => ∃ (i : Int) (lo hi : Option Int), vs = [.int i, oV lo, oV hi] ∧ (∀ l ∈ lo, l ≤ i) ∧ (∀ h ∈ hi, i ≤ h) ∧ Q (.bl true) H
theorem scIsWithin : FnScope ["value", "least", "most"] ["value", "least", "most"] (defScope sIsWithin) := ⟨rfl, rfl, rfl, by decide +kernel, rfl, by decide +kernel, by decide +kernel⟩
theorem dNon (i : Int) : decide (V.int i = V.non) = false := decide_eq_false (by intro h; cases h)
theorem ok_isWithin {f g : Addr} (_T : Bt mg) (F : Fx K mg "is_within" sIsWithin f) (G : Kp P w K mg base 1 "is_integer" g (spIsInteger K)) : Kp P w K mg base 2 "is_within" f spIsWithin := by
  refine kp_mk F scIsWithin (fun vs H Q E h => ?_) (fun _ _ _ _ _ _ us hl => match us, hl with | [_, _, _], _ => rfl) (fun cdv A outer s H vs Q E hr h => ?_)
  · obtain ⟨i, lo, hi, rfl, _⟩ := h
    rfl
  · obtain ⟨i, lo, hi, rfl, hlo, hhi, k⟩ := h
    refine ⟨_, pss_cons (ps_if (pt_not (pt_val (pe_k G hr (pa_cons (pv 0) pa_nil)))) pss_never pss_nil)
      (pss_one (ps_ret (pe_and (pe_or (pe_cmpR op_isN (pv 1) pe_non (nomark _)) (pe_one (pe_cmpR op_le (pv 1) (pv 0) (nomark _))))
        (pe_one (pe_or (pe_cmpR op_isN (pv 2) pe_non (nomark _)) (pe_one (pe_cmpR op_le (pv 0) (pv 2) (nomark _)))))))), ?_⟩
    refine ⟨_, rfl, _, _, rfl, .inl ⟨i, rfl, rfl⟩, true, rfl, iteF ?_⟩
    have second : (tOrV (tOp (fun x y H Q => y = .non ∧ Q (.bl (decide (x = .non))) H) (tVar 2) (tC .non)) (tOp (rI0 fun i j => .bl (decide (i ≤ j))) (tVar 0) (tVar 2))) (start ["value", "least", "most"] [.int i, oV lo, oV hi]) H Q := by
      refine ⟨_, rfl, rfl, ?_⟩
      cases hi with
      | none => exact ⟨true, rfl, iteT k⟩
      | some u =>
        refine ⟨false, congrArg V.bl (dNon u), iteF ⟨_, rfl, _, rfl, _, _, rfl, rfl, ?_⟩⟩
        show Q (V.bl (decide (i ≤ u))) H
        rw [decide_eq_true (hhi u rfl)]
        exact k
    refine ⟨_, rfl, rfl, ?_⟩
    cases lo with
    | none => exact ⟨true, rfl, iteT ⟨true, rfl, iteT second⟩⟩
    | some l =>
      refine ⟨false, congrArg V.bl (dNon l), iteF ⟨_, rfl, _, rfl, _, _, rfl, rfl, true, ?_, iteT second⟩⟩
      exact congrArg V.bl (decide_eq_true (hlo l rfl))

/-! ### numbers -/
def Num.above : Num → Int
  | .whole n => n
  | .frac a _ => a
def Num.under : Num → Int
  | .whole _ => 1
  | .frac _ b => b
/-- a number's place in the heap -/
theorem num_cases {H : Hp} {v : V} {q : Num} (h : Dp K H v q.dat) : (∃ n, q = .whole n ∧ v = .int n) ∨ (∃ a b t, q = .frac a b ∧ v = .ref t ∧ SqT K H t [.int a, .int b]) := by
  cases q with
  | whole n => exact .inl ⟨n, rfl, dp_int h⟩
  | frac a b =>
    obtain ⟨t, xs, rfl, hs, ha⟩ := dp_tup h
    obtain ⟨x, y, rfl, hx, hy⟩ := dpAll_2 ha
    rw [dp_int hx, dp_int hy] at hs
    exact .inr ⟨a, b, t, rfl, rfl, hs⟩
theorem num_frac {H : Hp} {t : Addr} {a b : Int} (h : SqT K H t [.int a, .int b]) : Dp K H (.ref t) (Num.frac a b).dat := .tup h (.cons (.int a) (.cons (.int b) .nil))
def spHalves (K : PySem.W.Frag) : Sp := fun vs H Q _ => ∃ (v : V) (q : Num), vs = [v] ∧ Dp K H v q.dat ∧ ∀ t, H t = none → Q (.ref t) (upd H t (.tup [.int q.above, .int q.under]))
theorem scHalves : FnScope ["number"] ["number"] (defScope sHalves) := ⟨rfl, rfl, rfl, by decide +kernel, rfl, by decide +kernel, by decide +kernel⟩
theorem ok_halves {f g : Addr} (F : Fx K mg "halves" sHalves f) (G : Kp P w K mg base 1 "is_integer" g (spIsInteger K)) : Kp P w K mg base 2 "halves" f (spHalves K) := by
  refine kp_mk F scHalves (fun vs H Q E h => ?_) (fun _ _ _ _ _ _ us hl => match us, hl with | [_], _ => rfl) (fun cdv A outer s H vs Q E hr h => ?_)
  · obtain ⟨v, q, rfl, _⟩ := h
    rfl
  · obtain ⟨v, q, rfl, hv, k⟩ := h
    refine ⟨_, pss_one (ps_ret (pe_ifExp (pt_val (pe_k G hr (pa_cons (pv 0) pa_nil))) (pe_tup (pa_cons (pv 0) (pa_cons pe_int pa_nil)))
      (pe_tup (pa_cons (pe_ix ix_tup (pv 0) pe_int (fun _ _ => rfl)) (pa_cons (pe_ix ix_tup (pv 0) pe_int (fun _ _ => rfl)) pa_nil))))), ?_⟩
    rcases num_cases hv with ⟨n, rfl, rfl⟩ | ⟨a, b, t, rfl, rfl, hs⟩
    · refine ⟨_, rfl, _, _, rfl, .inl ⟨n, rfl, rfl⟩, true, rfl, iteT ⟨_, rfl, by show 2 ≤ sizeLine; decide, fun t ht => k t ht⟩⟩
    · refine ⟨_, rfl, _, _, rfl, .inr ⟨t, _, rfl, hs, rfl⟩, false, rfl, iteF ⟨_, rfl, t, _, _, _, rfl, rfl, hs, rfl, _, rfl, t, _, _, _, rfl, rfl, hs, rfl, by show 2 ≤ sizeLine; decide, fun t' ht => k t' ht⟩⟩

def spCommon : Sp := fun vs H Q _ => ∃ (a b : Int), vs = [.int a, .int b] ∧ Q (.int (Nat.gcd a.natAbs b.natAbs : Nat)) H
theorem scCommon : FnScope ["one", "other"] ["one", "other"] (defScope sCommon) := ⟨rfl, rfl, rfl, by decide +kernel, rfl, by decide +kernel, by decide +kernel⟩
theorem abs_nat (i : Int) : (if i < 0 then -i else i) = (i.natAbs : Int) := by split <;> omega
theorem ok_common {f : Addr} (T : Bt mg) (F : Fx K mg "common" sCommon f) : Kp P w K mg base 1 "common" f spCommon := by
  refine kp_mk F scCommon (fun vs H Q E h => ?_) (fun _ _ _ _ _ _ us hl => match us, hl with | [_, _], _ => rfl) (fun cdv A outer s H vs Q E hr h => ?_)
  · obtain ⟨a, b, rfl, _⟩ := h
    rfl
  · obtain ⟨a, b, rfl, k⟩ := h
    refine ⟨_, pss_cons (ps_par (i := 0) (j := 1) (by rfl) scCommon.nd rfl rfl (by decide) rfl rfl (pa_cons (pe_callB call_abs (by rfl) T.abs_ PyProof.Rows.boot_abs (pa_cons (pv 0) pa_nil)) (pa_cons (pe_callB call_abs (by rfl) T.abs_ PyProof.Rows.boot_abs (pa_cons (pv 1) pa_nil)) pa_nil)) (by rfl))
      (pss_cons (ps_while PassesOwn.never (pt_cmpR op_gt (pv 1) pe_int (nomark _)) (pss_one (ps_par (i := 0) (j := 1) (by rfl) scCommon.nd rfl rfl (by decide) rfl rfl (pa_cons (pv 1) (pa_cons (pe_op op_mod (pv 0) (pv 1)) pa_nil)) (by rfl))))
      (pss_one (ps_ret (pv 0)))), ?_⟩
    refine ⟨_, rfl, a, rfl, _, rfl, b, rfl, _, _, rfl, ?_⟩
    refine while_by (fun σ H' => ∃ m n : Nat, σ = [some (.int (m : Int)), some (.int (n : Int))] ∧ H' = H ∧ Nat.gcd m n = Nat.gcd a.natAbs b.natAbs) (fun σ _ => match σ with | [_, some (.int n)] => n.toNat | _ => 0)
      ⟨a.natAbs, b.natAbs, by rw [abs_nat, abs_nat]; rfl, rfl, rfl⟩ ?_ (fun σ H Q Q' h q => ?_)
    · rintro σ H' ⟨m, n, rfl, rfl, hg⟩
      refine ⟨_, rfl, _, _, rfl, rfl, _, rfl, ?_⟩
      by_cases hn : 0 < n
      · rw [decide_eq_true (show (0 : Int) < (n : Int) by omega)]
        refine iteT ⟨_, rfl, _, rfl, _, rfl, _, _, rfl, rfl, (by show (0 : Int) < (n : Int); omega), _, _, rfl, ?_, ?_⟩
        · refine ⟨n, m % n, ?_, rfl, ?_⟩
          · rw [Int.natCast_emod]
            rfl
          · rw [← hg, Nat.gcd_comm n, ← Nat.gcd_rec, Nat.gcd_comm]
        · show ((m : Int) % (n : Int)).toNat < (n : Int).toNat
          rw [← Int.natCast_emod, Int.toNat_natCast, Int.toNat_natCast]
          exact Nat.mod_lt m hn
      · have h0 : n = 0 := by omega
        subst h0
        rw [decide_eq_false (show ¬ (0 : Int) < ((0 : Nat) : Int) by omega)]
        refine iteF ⟨_, rfl, ?_⟩
        rw [Nat.gcd_zero_right] at hg
        rw [hg]
        exact k
    · obtain ⟨v, e, i, j, h1, h2, b', h3, h4⟩ := q
      exact ⟨v, e, i, j, h1, h2, b', h3, h _ _ h4⟩

def spLowest : Sp := fun vs H Q _ => ∃ (a b : Int), vs = [.int a, .int b] ∧ 2 ≤ b ∧ b ≤ 1000 ∧ Nat.gcd a.natAbs b.natAbs = 1 ∧ ∀ t, H t = none → Q (.ref t) (upd H t (.tup [.int a, .int b]))
theorem scLowestIn : FnScope ["above", "under", "by"] ["above", "under"] (defScope sLowestIn) := ⟨rfl, rfl, rfl, by decide +kernel, rfl, by decide +kernel, by decide +kernel⟩
theorem ok_lowestIn {f g : Addr} (F : Fx K mg "lowest_in" sLowestIn f) (G : Kp P w K mg base 1 "common" g spCommon) : Kp P w K mg base 2 "lowest_in" f spLowest := by
  refine kp_mk F scLowestIn (fun vs H Q E h => ?_) (fun _ _ _ _ _ _ us hl => match us, hl with | [_, _], _ => rfl) (fun cdv A outer s H vs Q E hr h => ?_)
  · obtain ⟨a, b, rfl, _⟩ := h
    rfl
  · obtain ⟨a, b, rfl, h2, h3, hg, k⟩ := h
    refine ⟨_, pss_cons (ps_set (i := 2) scLowestIn.nd rfl (Or.inl rfl) (pe_ifExp (pt_cmpR op_gt (pv 1) pe_int (nomark _)) (pe_k G hr (pa_cons (pv 0) (pa_cons (pv 1) pa_nil))) (pe_un un_neg (pe_k G hr (pa_cons (pv 0) (pa_cons (pv 1) pa_nil))))))
      (pss_one (ps_ret (pe_ifExp (pt_cmpR op_eq (pe_op op_fdiv (pv 1) (pv 2)) pe_int (nomark _)) (pe_op op_fdiv (pv 0) (pv 2)) (pe_tup (pa_cons (pe_op op_fdiv (pv 0) (pv 2)) (pa_cons (pe_op op_fdiv (pv 1) (pv 2)) pa_nil)))))), ?_⟩
    refine ⟨_, rfl, _, _, rfl, rfl, true, congrArg V.bl (decide_eq_true (by omega)), iteT ⟨_, rfl, _, rfl, a, b, rfl, ?_⟩⟩
    rw [hg]
    have c1 : CDiv a 1 := ⟨by decide, by decide⟩
    refine ⟨_, rfl, _, rfl, _, _, rfl, rfl, ⟨by decide, by decide⟩, rfl, false, ?_, iteF ⟨_, rfl, _, rfl, _, _, rfl, rfl, ⟨by decide, by decide⟩, _, rfl, _, rfl, _, _, rfl, rfl, ⟨by decide, by decide⟩, by show 2 ≤ sizeLine; decide, fun t ht => ?_⟩⟩
    · refine congrArg V.bl (decide_eq_false fun e => ?_)
      have e1 : b / ((1 : Nat) : Int) = 1 := by
        injection e
      rw [Int.natCast_one, Int.ediv_one] at e1
      omega
    · have e1 : a / ((1 : Nat) : Int) = a := by rw [Int.natCast_one, Int.ediv_one]
      have e2 : b / ((1 : Nat) : Int) = b := by rw [Int.natCast_one, Int.ediv_one]
      show Q (.ref t) (upd H t (.tup [.int (a / ((1 : Nat) : Int)), .int (b / ((1 : Nat) : Int))]))
      rw [e1, e2]
      exact k t ht

theorem small_log {i : Int} (h : i.natAbs ≤ 1000000) : i.natAbs.log2 < 1920 := by
  rcases Nat.eq_zero_or_pos i.natAbs with e | e
  · rw [e]; decide
  · have h2 : i.natAbs.log2 < 20 := (Nat.log2_lt (by omega)).mpr (by omega)
    omega
def spTextIn (K : PySem.W.Frag) : Sp := fun vs H Q _ => ∃ (v : V) (q : Num), vs = [v] ∧ Dp K H v q.dat ∧ q.Ok ∧ Q (.str q.txt) H
theorem scTextIn : FnScope ["number"] ["number"] (defScope sTextIn) := ⟨rfl, rfl, rfl, by decide +kernel, rfl, by decide +kernel, by decide +kernel⟩
theorem emp_app (x : Str) : Str.empty ++ x = x := TL.ext_tl (by rw [TL.tl_append]; rfl)
theorem ok_textIn {f g : Addr} (T : Bt mg) (F : Fx K mg "text_in" sTextIn f) (G : Kp P w K mg base 1 "is_integer" g (spIsInteger K)) : Kp P w K mg base 2 "text_in" f (spTextIn K) := by
  refine kp_mk F scTextIn (fun vs H Q E h => ?_) (fun _ _ _ _ _ _ us hl => match us, hl with | [_], _ => rfl) (fun cdv A outer s H vs Q E hr h => ?_)
  · obtain ⟨v, q, rfl, _⟩ := h
    rfl
  · obtain ⟨v, q, rfl, hv, hq, k⟩ := h
    refine ⟨_, pss_one (ps_ret (pe_ifExp (pt_val (pe_k G hr (pa_cons (pv 0) pa_nil))) (pe_callTy call_str_int (by rfl) T.str_ PyProof.Rows.boot_str (pa_cons (pv 0) pa_nil))
      (pe_joined (.cons (pe_fmt (pe_ix ix_tup (pv 0) pe_int (fun _ _ => rfl))) (.cons pe_str (.cons (pe_fmt (pe_ix ix_tup (pv 0) pe_int (fun _ _ => rfl))) .nil)))))), ?_⟩
    rcases num_cases hv with ⟨n, rfl, rfl⟩ | ⟨a, b, t, rfl, rfl, hs⟩
    · exact ⟨_, rfl, _, _, rfl, .inl ⟨n, rfl, rfl⟩, true, rfl, iteT ⟨_, rfl, n, rfl, small_log hq, k⟩⟩
    · have hl := hq.len
      obtain ⟨h1, h2, h3, _⟩ := hq
      have la := istr_len (n := a) h1
      have lb := istr_len (n := b) (by omega)
      have e1 : Str.empty ++ istr a = istr a := emp_app _
      have z17 : (17 : Nat) ≤ sizeLine := by decide
      have ls : (istr a ++ slash).length = (istr a).length + 1 := by
        rw [strLen_append]
        rfl
      refine ⟨_, rfl, _, _, rfl, .inr ⟨t, _, rfl, hs, rfl⟩, false, rfl, iteF ⟨_, rfl, t, _, _, _, rfl, rfl, hs, rfl, .inr ⟨a, rfl, small_log h1, istr a, rfl, ?_, slash, rfl, ?_, _, rfl, t, _, _, _, rfl, rfl, hs, rfl, .inr ⟨b, rfl, small_log (by omega), istr b, rfl, ?_, ?_⟩⟩⟩⟩
      · rw [e1]
        omega
      · rw [e1, ls]
        omega
      · rw [e1]
        exact Nat.le_trans hl z17
      · show Q (.str (Str.empty ++ istr a ++ slash ++ istr b)) H
        rw [e1]
        exact k

def spIsTrue (K : PySem.W.Frag) : Sp := fun vs H Q _ => ∃ (v : V) (q : Num), vs = [v] ∧ Dp K H v q.dat ∧ q.Ok ∧ ∀ H', Same H H' → Q (.bl true) H'
theorem scIsNumber : FnScope ["value"] ["value"] (defScope sIsNumber) := ⟨rfl, rfl, rfl, by decide +kernel, rfl, by decide +kernel, by decide +kernel⟩
/-- the module's whole numbers -/
structure Cn (mg : Str → Option Value) : Prop where
  lu : ∃ t, mg "LEAST_UNDER" = some (.int 2 t)
  sa : ∃ t, mg "SMALL_ABOVE" = some (.int 1000000 t)
  su : ∃ t, mg "SMALL_UNDER" = some (.int 1000 t)
  bar : ∃ t, mg "BAR" = some (.str "/" t)
  fig : ∃ t, mg "FIGURES" = some (.str "0123456789" t)
  mf : ∃ t, mg "MOST_FIGURES" = some (.int 140 t)
  mw : ∃ t, mg "MOST_WIDE" = some (.int 2 t)
  mp : ∃ t, mg "MOST_PIECES" = some (.int 60 t)
  far : ∃ t, mg "FARTHEST" = some (.int 1000 t)
theorem pe_cn {X : Cx} {x : Str} {i : Int} {pos : Pos} (h : ∃ t, X.mg x = some (.int i t)) (hg : Gl X x := by rfl) (hd : (x == ("__debug__" : Str)) = false := by decide) : PE X (.Name x pos) (tC (.int i)) := by
  obtain ⟨t, h⟩ := h
  exact pe_glob hg h ⟨t, rfl⟩ hd
theorem pe_cs {X : Cx} {x : Str} {z : Str} {pos : Pos} (h : ∃ t, X.mg x = some (.str z t)) (hg : Gl X x := by rfl) (hd : (x == ("__debug__" : Str)) = false := by decide) : PE X (.Name x pos) (tC (.str z)) := by
  obtain ⟨t, h⟩ := h
  exact pe_glob hg h ⟨t, rfl⟩ hd
theorem ok_isNumber {f g1 g2 g3 g4 : Addr} (T : Bt mg) (N : Cn mg) (F : Fx K mg "is_number" sIsNumber f) (G1 : Kp P w K mg base 1 "is_list" g1 (spIsList K)) (G2 : Kp P w K mg base 1 "is_integer" g2 (spIsInteger K)) (G3 : Kp P w K mg base 2 "is_within" g3 spIsWithin)
    (G4 : Kp P w K mg base 1 "common" g4 spCommon) : Kp P w K mg base 3 "is_number" f (spIsTrue K) := by
  refine kp_mk F scIsNumber (fun vs H Q E h => ?_) (fun _ _ _ _ _ _ us hl => match us, hl with | [_], _ => rfl) (fun cdv A outer s H vs Q E hr h => ?_)
  · obtain ⟨v, q, rfl, _⟩ := h
    rfl
  · obtain ⟨v, q, rfl, hv, hq, k⟩ := h
    refine ⟨_, pss_cons (ps_if (pt_not (pt_val (pe_k G1 hr (pa_cons (pv 0) pa_nil)))) (pss_one (ps_ret (pe_k G2 hr (pa_cons (pv 0) pa_nil)))) pss_nil)
      (pss_cons (ps_if (PW.pt (pw_or (pt_cmpR op_ne (pe_callB call_len_seq (by rfl) T.len_ PySem.boot_len (pa_cons (pv 0) pa_nil)) pe_int (nomark _))
          (pw_or (pt_not (pt_val (pe_k G2 hr (pa_cons (pe_ix ix_tup (pv 0) pe_int (fun _ _ => rfl)) pa_nil))))
            (pw_or1 (pt_not (pt_val (pe_k G3 hr (pa_cons (pe_ix ix_tup (pv 0) pe_int (fun _ _ => rfl)) (pa_cons (pe_cn N.lu) (pa_cons pe_non pa_nil)))))))))) pss_never pss_nil)
      (pss_one (ps_ret (pe_cmpR op_eq (pe_k G4 hr (pa_cons (pe_ix ix_tup (pv 0) pe_int (fun _ _ => rfl)) (pa_cons (pe_ix ix_tup (pv 0) pe_int (fun _ _ => rfl)) pa_nil))) pe_int (nomark _))))), ?_⟩
    rcases num_cases hv with ⟨n, rfl, rfl⟩ | ⟨a, b, t, rfl, rfl, hs⟩
    · refine ⟨_, rfl, _, _, rfl, .inl ⟨n, rfl, rfl⟩, fun H1 s1 => ⟨false, rfl, iteT ⟨_, rfl, _, _, rfl, .inl ⟨n, rfl, rfl⟩, k H1 s1⟩⟩⟩
    · obtain ⟨h1, h2, h3, hg⟩ := hq
      refine ⟨_, rfl, _, _, rfl, .inr ⟨t, _, rfl, .inl hs, rfl⟩, fun H1 s1 => ⟨true, rfl, iteF ?_⟩⟩
      have hs1 := sqT_same s1 hs
      refine ⟨_, rfl, t, _, rfl, .inr hs1, rfl, false, rfl, iteF ?_⟩
      refine ⟨_, rfl, t, _, _, _, rfl, rfl, hs1, rfl, _, _, rfl, .inl ⟨a, rfl, rfl⟩, true, rfl, iteF ?_⟩
      refine ⟨_, rfl, t, _, _, _, rfl, rfl, hs1, rfl, b, some 2, none, rfl, fun l e => ?_, (fun l e => nomatch e), true, rfl, iteF ?_⟩
      · cases e
        exact h2
      · refine ⟨_, rfl, t, _, _, _, rfl, rfl, hs1, rfl, _, rfl, t, _, _, _, rfl, rfl, hs1, rfl, a, b, rfl, rfl, ?_⟩
        rw [hg]
        exact k H1 s1

theorem scIsSmall : FnScope ["value", "above", "under"] ["value"] (defScope sIsSmall) := ⟨rfl, rfl, rfl, by decide +kernel, rfl, by decide +kernel, by decide +kernel⟩
theorem Num.Ok.above {q : Num} (h : q.Ok) : q.above.natAbs ≤ 1000000 := by
  cases q with
  | whole n => exact h
  | frac a b => exact h.1
theorem Num.Ok.under {q : Num} (h : q.Ok) : q.under ≤ 1000 := by
  cases q with
  | whole n => show (1 : Int) ≤ 1000; decide
  | frac a b => exact h.2.2.1
theorem ok_isSmall {f g1 g2 : Addr} (T : Bt mg) (N : Cn mg) (F : Fx K mg "is_small" sIsSmall f) (G1 : Kp P w K mg base 3 "is_number" g1 (spIsTrue K)) (G2 : Kp P w K mg base 2 "halves" g2 (spHalves K)) : Kp P w K mg base 4 "is_small" f (spIsTrue K) := by
  refine kp_mk F scIsSmall (fun vs H Q E h => ?_) (fun _ _ _ _ _ _ us hl => match us, hl with | [_], _ => rfl) (fun cdv A outer s H vs Q E hr h => ?_)
  · obtain ⟨v, q, rfl, _⟩ := h
    rfl
  · obtain ⟨v, q, rfl, hv, hq, k⟩ := h
    refine ⟨_, pss_cons (ps_if (pt_not (pt_val (pe_k G1 hr (pa_cons (pv 0) pa_nil)))) pss_never pss_nil)
      (pss_cons (ps_asg (pe_k G2 hr (pa_cons (pv 0) pa_nil)) (pg_tup (by rfl) (pgs_cons (pg_name (i := 1) scIsSmall.nd rfl (Or.inl rfl)) (pgs_cons (pg_name (i := 2) scIsSmall.nd rfl (Or.inl rfl)) pgs_nil))))
      (pss_one (ps_ret (pe_and (pe_cmpR op_le (pe_callB call_abs (by rfl) T.abs_ PyProof.Rows.boot_abs (pa_cons (pv 1) pa_nil)) (pe_cn N.sa) (nomark _)) (pe_one (pe_cmpR op_le (pv 2) (pe_cn N.su) (nomark _))))))), ?_⟩
    refine ⟨_, rfl, v, q, rfl, hv, hq, fun H1 s1 => ⟨true, rfl, iteF ?_⟩⟩
    refine ⟨_, rfl, v, q, rfl, dp_same s1 _ _ hv, fun t ht => ⟨t, _, rfl, .inl (.inl upd_same), rfl, _, _, rfl, _, _, rfl, rfl, ?_⟩⟩
    have ha := hq.above
    have hu := hq.under
    refine ⟨_, rfl, _, rfl, _, _, rfl, rfl, true, ?_, iteT ⟨_, rfl, _, _, rfl, rfl, ?_⟩⟩
    · refine congrArg V.bl (decide_eq_true ?_)
      rw [abs_nat]
      omega
    · show Q (V.bl (decide (q.under ≤ 1000))) _
      rw [decide_eq_true hu]
      exact k _ (Same.new s1 ht)

def spKeptNumber (K : PySem.W.Frag) : Sp := fun vs H Q _ => ∃ (v : V) (q : Num), vs = [v] ∧ Dp K H v q.dat ∧ ∀ H' v', Same H H' → Dp K H' v' q.dat → Q v' H'
theorem scKeptNumber : FnScope ["value"] ["value"] (defScope sKeptNumber) := ⟨rfl, rfl, rfl, by decide +kernel, rfl, by decide +kernel, by decide +kernel⟩
theorem ok_keptNumber {f g1 : Addr} (T : Bt mg) (F : Fx K mg "kept_number" sKeptNumber f) (G1 : Kp P w K mg base 1 "is_list" g1 (spIsList K)) : Kp P w K mg base 2 "kept_number" f (spKeptNumber K) := by
  refine kp_mk F scKeptNumber (fun vs H Q E h => ?_) (fun _ _ _ _ _ _ us hl => match us, hl with | [_], _ => rfl) (fun cdv A outer s H vs Q E hr h => ?_)
  · obtain ⟨v, q, rfl, _⟩ := h
    rfl
  · obtain ⟨v, q, rfl, hv, k⟩ := h
    refine ⟨_, pss_one (ps_ret (pe_ifExp (pt_val (pe_k G1 hr (pa_cons (pv 0) pa_nil))) (pe_callTy call_tuple_of (by rfl) T.tuple_ PyProof.Rows.boot_tuple (pa_cons (pv 0) pa_nil)) (pv 0))), ?_⟩
    rcases num_cases hv with ⟨n, rfl, rfl⟩ | ⟨a, b, t, rfl, rfl, hs⟩
    · exact ⟨_, rfl, _, _, rfl, .inl ⟨n, rfl, rfl⟩, fun H1 s1 => ⟨false, rfl, iteF ⟨_, rfl, k H1 _ s1 (.int n)⟩⟩⟩
    · refine ⟨_, rfl, _, _, rfl, .inr ⟨t, _, rfl, .inl hs, rfl⟩, fun H1 s1 => ⟨true, rfl, iteT ⟨_, rfl, ?_⟩⟩⟩
      exact ⟨t, _, rfl, .inr ⟨sqT_same s1 hs, k H1 _ s1 (num_frac (sqT_same s1 hs))⟩⟩
end
end K6

set_option maxRecDepth 100000
set_option maxHeartbeats 4000000
/-! KD2: the defs of scans. -/
namespace K6
open PySem PySem.Spec PyProof.Rows L2
open TL (tl)

/-! ### a number's figures -/
/-- the signs of a bounded number: its figures ds, a minus ahead of them or not -/
theorem figs {n : Int} (h : n.natAbs ≤ 1000000) : ∃ ds : List Nat, NumText.AllDigits ds ∧ ds ≠ [] ∧ ds.length ≤ 8 ∧ ((tl (istr n) = ds) ∨ (tl (istr n) = 45 :: ds)) ∧ (ds.head? = some 48 → tl (istr n) = [48]) := by
  rcases istr_cases n with ⟨m, rfl, q⟩ | ⟨m, rfl, q⟩
  · have hl := numL_le (n := m) (by omega)
    refine ⟨TL.numL m, TL.numL_digits m, TL.numL_ne m, by omega, .inl q, fun hd => ?_⟩
    rcases Nat.eq_zero_or_pos m with e | e
    · rw [q, e, TL.numL_lt (by decide)]
    · exact absurd hd (numL_head m e)
  · have hl := numL_le (n := m + 1) (by omega)
    exact ⟨TL.numL (m + 1), TL.numL_digits _, TL.numL_ne _, by omega, .inr q, fun hd => absurd hd (numL_head _ (by omega))⟩
theorem str_S (x : Str) : x = SX.S (tl x) := (SX.S_tl x).symm
theorem all_true {ys : List V} (h : ∀ (i : Nat) v, ys[i]? = some v → v = V.bl true) : ys = (List.replicate ys.length true).map V.bl := by
  rw [List.map_replicate]
  refine List.eq_replicate_iff.mpr ⟨rfl, fun v hv => ?_⟩
  obtain ⟨i, hi⟩ := List.mem_iff_getElem?.mp hv
  exact h i v hi
theorem rep_all (n : Nat) : (List.replicate n true).all id = true := by
  rw [List.all_eq_true]
  intro b hb
  rw [List.eq_of_mem_replicate hb]
  rfl
section
variable {P : Program} {w : World} {K : PySem.W.Frag} {mg : Str → Option Value} {base : Heap}
def spWritten : Sp := fun vs H Q _ => ∃ n : Int, vs = [.str (istr n)] ∧ n.natAbs ≤ 1000000 ∧ ∀ H', Same H H' → Q (.int n) H'
theorem scWritten : FnScope ["item", "figures", "sign"] ["item"] (defScope sWritten) := ⟨rfl, rfl, rfl, by decide +kernel, rfl, by decide +kernel, by decide +kernel⟩
theorem fig_chars : tl (Str.ofString "0123456789") = [48, 49, 50, 51, 52, 53, 54, 55, 56, 57] := by decide +kernel
theorem minus_S : Str.ofString "-" = SX.S [45] := by decide +kernel
theorem nought_S : Str.ofString "0" = SX.S [48] := by decide +kernel
theorem empty_S : Str.ofString "" = SX.S [] := by decide +kernel
theorem ok_written {f : Addr} (T : Bt mg) (N : Cn mg) (F : Fx K mg "written" sWritten f) : Kp P w K mg base 1 "written" f spWritten := by
  refine kp_mk F scWritten (fun vs H Q E h => ?_) (fun _ _ _ _ _ _ us hl => match us, hl with | [_], _ => rfl) (fun cdv A outer s H vs Q E hr h => ?_)
  · obtain ⟨n, rfl, _⟩ := h
    rfl
  · obtain ⟨n, rfl, hn, k⟩ := h
    obtain ⟨ds, hd, hne, hlen, hcs, hhead⟩ := figs hn
    have big : (9 : Nat) ≤ sizeLine := by decide
    refine ⟨_, C8.pss_cut (ps_set (i := 1) scWritten.nd rfl (Or.inl rfl) (pe_ifExp (pt_cmpR op_eq (pe_slice C8.sl_txt (pv 0) po_none (po_some pe_int)) pe_str (nomark _)) (pe_slice C8.sl_txt (pv 0) (po_some pe_int) po_none) (pv 0)))
      (pss_cons (ps_if (PW.pt (pw_or (pt_cmpR op_eq (pv 1) pe_str (nomark _)) (pw_or (pt_cmpR op_gt (pe_callB call_len_str (by rfl) T.len_ PySem.boot_len (pa_cons (pv 1) pa_nil)) (pe_cn N.mf) (nomark _))
          (pw_or1 (pt_not (pt_val (pe_callB (cr_all rfl) (by rfl) T.all_ PyProof.Rows.boot_all (pa_cons (pe_lc (own := [("sign", 2)]) (g := gName 2) (tt := tYes) rfl scWritten.nd (pi_str (pv 1)) (blkOk_by (own := [("sign", 2)]) (N := ["item", "figures", "sign"]) (sc := defScope sWritten) (by decide +kernel))
            (fun _ _ _ _ _ => pg_name (i := 2) scWritten.nd rfl (Or.inl rfl)) (fun _ _ _ _ _ => pts_nil) (fun _ _ _ _ _ => pe_cmpR op_in_sign (pv 2) (pe_cs N.fig) (by rfl))) pa_nil)))))))) pss_never pss_nil)
      (pss_cons (ps_if (PW.pt (pw_and (pt_cmpR op_eq (pe_ix ix_str (pv 1) pe_int (fun _ _ => rfl)) pe_str (nomark _)) (pw_and1 (pt_cmpR op_ne (pv 0) pe_str (nomark _))))) pss_never pss_nil)
      (pss_one (ps_ret (pe_callTy call_int_str (by rfl) T.int_ PyProof.Rows.boot_int (pa_cons (pv 0) pa_nil)))))), ?_⟩
    have hil := istr_len hn
    refine ⟨fun σ' H' => σ' = [some (.str (istr n)), some (.str (SX.S ds)), none] ∧ H' = H, ?_, ?_⟩
    · -- figures = item[1:] if item[:1] == '-' else item
      have e0 : istr n = SX.S (tl (istr n)) := str_S _
      rcases hcs with q | q
      · have h1 : Txt.slice (istr n) none (some 1) = SX.S ((tl (istr n)).take 1) := by
          have z := SX.slice_to (a := tl (istr n)) (i := 1) (by decide)
          rw [← e0] at z
          exact z
        refine ⟨_, rfl, 1, rfl, istr n, rfl, by omega, rfl, false, ?_, iteF ⟨_, rfl, ?_, rfl⟩⟩
        · refine congrArg V.bl (decide_eq_false fun e => ?_)
          injection e with e
          rw [h1, minus_S, q] at e
          have e2 := SX.S_inj e
          cases ds with
          | nil => exact hne rfl
          | cons d r =>
            have e3 : d = 45 := by simpa using e2
            have := hd d List.mem_cons_self
            omega
        · show [some (V.str (istr n)), some (V.str (istr n)), none] = _
          rw [← q, ← e0]
      · have h1 : Txt.slice (istr n) none (some 1) = SX.S ((tl (istr n)).take 1) := by
          have z := SX.slice_to (a := tl (istr n)) (i := 1) (by decide)
          rw [← e0] at z
          exact z
        have h2 : Txt.slice (istr n) (some 1) none = SX.S ((tl (istr n)).drop 1) := by
          have z := SX.slice_from (a := tl (istr n)) (i := 1) (by decide)
          rw [← e0] at z
          exact z
        refine ⟨_, rfl, 1, rfl, istr n, rfl, by omega, rfl, true, ?_, iteT ⟨_, rfl, 1, rfl, istr n, rfl, by omega, ?_, rfl⟩⟩
        · refine congrArg V.bl (decide_eq_true ?_)
          rw [h1, minus_S, q]
          rfl
        · show [some (V.str (istr n)), some (V.str (Txt.slice (istr n) (some 1) none)), none] = _
          rw [h2, q]
          rfl
    · rintro σ' H' ⟨rfl, rfl⟩
      have hz : (SX.S ds).length = ds.length := SX.S_len ds
      have hsz : (SX.S ds).cps.size = ds.length := by simp
      -- the first test: none of the three
      refine ⟨_, rfl, rfl, false, ?_, iteF ⟨_, rfl, SX.S ds, rfl, by omega, _, _, rfl, rfl, false, ?_, iteF ?_⟩⟩
      · refine congrArg V.bl (decide_eq_false fun e => ?_)
        injection e with e
        rw [empty_S] at e
        exact hne (SX.S_inj e)
      · refine congrArg V.bl (decide_eq_false ?_)
        rw [hz]
        omega
      · refine ⟨_, rfl, SX.S ds, rfl, fun D hD => lc_same (walk_str (z := SX.S ds)) (by omega) hD (fun i v H => v = V.bl true) (fun _ _ _ _ _ _ h => h) (fun _ _ _ _ _ h => h) (fun _ _ _ _ => True.intro) (fun _ _ _ _ h => h.1) ?_ ?_⟩
        · rintro i acc x H1 Post hi hS hDD ⟨_, c, hc, rfl⟩ post
          refine ⟨rfl, _, rfl, c, _, rfl, rfl, ?_⟩
          have hmem : c ∈ ds := by
            have z : ds[i]? = some c := by simpa using hc
            exact List.mem_of_getElem? z
          have hr := hd c hmem
          refine post _ _ (Same.refl _) ?_
          show V.bl (decide (c ∈ tl (Str.ofString "0123456789"))) = _
          rw [fig_chars]
          refine congrArg V.bl (decide_eq_true ?_)
          simp only [List.mem_cons, List.not_mem_nil, or_false]
          omega
        · intro ys H1 hlen1 hT hS hDD
          have hys := all_true hT
          refine ⟨D, List.replicate ys.length true, rfl, by rw [← hys]; exact SqL.of hDD, true, congrArg V.bl (rep_all _), iteF ?_⟩
          -- no leading nought
          cases ds with
          | nil => exact absurd rfl hne
          | cons d r =>
            refine ⟨_, rfl, SX.S (d :: r), 0, d, rfl, rfl, by omega, (by show atI (d :: r) ((0 : Nat) : Int) = some d; exact atI_nat rfl), rfl, decide (V.str ⟨#[d]⟩ = V.str (Str.ofString "0")), rfl, ?_⟩
            have fin : ∀ Hx, Same H' Hx → (∃ v, ([some (V.str (istr n)), some (V.str (SX.S (d :: r))), none] : L2.St)[0]? = some (some v) ∧ ∃ a m, [v] = [V.str a] ∧ intText? a = some m ∧ a.length ≤ 640 ∧ Q (V.int m) Hx) := fun Hx sx => ⟨_, rfl, istr n, n, rfl, istr_int hn, by omega, k Hx sx⟩
            by_cases hd0 : d = 48
            · have e48 : tl (istr n) = [48] := hhead (by rw [hd0]; rfl)
              have en : istr n = Str.ofString "0" := by
                rw [nought_S, str_S (istr n), e48]
              rw [decide_eq_true (show V.str ⟨#[d]⟩ = V.str (Str.ofString "0") by rw [hd0]; exact congrArg V.str nought_S.symm)]
              refine iteT ⟨_, rfl, rfl, false, ?_, iteF (fin H1 hS)⟩
              show V.bl (!decide (V.str (istr n) = V.str (Str.ofString "0"))) = _
              rw [decide_eq_true (congrArg V.str en)]
              rfl
            · rw [decide_eq_false (fun e => hd0 (by injection e with e; rw [nought_S] at e; have e2 : SX.S [d] = SX.S [48] := e; simpa using SX.S_inj e2))]
              exact iteF (iteF (fin H1 hS))

def spWrittenFraction (K : PySem.W.Frag) : Sp := fun vs H Q _ => ∃ q : Num, vs = [.str q.txt] ∧ q.Ok ∧ ∀ H' v, Same H H' → Dp K H' v q.dat → Q v H'
theorem scWrittenFraction : FnScope ["item", "first", "second", "above", "under"] ["item"] (defScope sWrittenFraction) := ⟨rfl, rfl, rfl, by decide +kernel, rfl, by decide +kernel, by decide +kernel⟩
theorem slash_one : Str.ofString "/" = ⟨#[47]⟩ := by decide +kernel
theorem frac_split (a b : Int) : Txt.split (Num.frac a b).txt slash = [istr a, istr b] := by
  have e : (Num.frac a b).txt = Txt.join slash [istr a, istr b] := (TL.join_eq slash [istr a, istr b]).symm
  rw [e]
  refine TL.split_join (s := 47) (S := []) tl_slash (by decide +kernel) (by simp) fun p hp => ?_
  simp only [List.mem_cons, List.not_mem_nil, or_false] at hp
  rcases hp with rfl | rfl <;> exact istr_free (by omega)
theorem ok_writtenFraction {f g1 g2 : Addr} (T : Bt mg) (N : Cn mg) (F : Fx K mg "written_fraction" sWrittenFraction f) (G1 : Kp P w K mg base 1 "written" g1 spWritten) (G2 : Kp P w K mg base 2 "lowest_in" g2 spLowest) : Kp P w K mg base 3 "written_fraction" f (spWrittenFraction K) := by
  refine kp_mk F scWrittenFraction (fun vs H Q E h => ?_) (fun _ _ _ _ _ _ us hl => match us, hl with | [_], _ => rfl) (fun cdv A outer s H vs Q E hr h => ?_)
  · obtain ⟨q, rfl, _⟩ := h
    rfl
  · obtain ⟨q, rfl, hq, k⟩ := h
    have hu : (A.deeper (envOfC "written_fraction" (defScope sWrittenFraction) s.heap.objs.size f cdv)).units + 64 < cLine := hr.units
    refine ⟨_, pss_cons (ps_if (pt_cmpR op_notIn_sign (pe_cs N.bar) (pv 0) (by rfl)) (pss_one (ps_ret (pe_k G1 hr (pa_cons (pv 0) pa_nil)))) pss_nil)
      (pss_cons (ps_asg (pe_slice sl_list (pe_split (pv 0) (pe_cs N.bar)) po_none (po_some pe_int)) (pg_unl rfl (pgs_cons (pg_name (i := 1) scWrittenFraction.nd rfl (Or.inl rfl)) (pgs_cons (pg_name (i := 2) scWrittenFraction.nd rfl (Or.inl rfl)) pgs_nil))))
      (pss_cons (ps_par (i := 3) (j := 4) (by rfl) scWrittenFraction.nd rfl rfl (by decide) rfl rfl (pa_cons (pe_k G1 hr (pa_cons (pv 1) pa_nil)) (pa_cons (pe_k G1 hr (pa_cons (pv 2) pa_nil)) pa_nil)) (by rfl))
      (pss_cons (ps_if (PW.pt (pw_or (pt_cmpR op_isN (pv 3) pe_non (nomark _)) (pw_or (pt_cmpR op_isN (pv 4) pe_non (nomark _)) (pw_or (pt_cmpR op_lt (pv 4) pe_int (nomark _))
          (pw_or1 (pt_cmpR op_ne (pv 0) (pe_op op_add_str (pe_op op_add_str (pv 1) (pe_cs N.bar)) (pv 2)) (nomark _))))))) pss_never pss_nil)
      (pss_one (ps_ret (pe_ifExp (pt_cmpR (op_eqD hu) (pe_k G2 hr (pa_cons (pv 3) (pa_cons (pv 4) pa_nil))) (pe_tup (pa_cons (pv 3) (pa_cons (pv 4) pa_nil))) (nomark _)) (pe_tup (pa_cons (pv 3) (pa_cons (pv 4) pa_nil))) pe_non)))))), ?_⟩
    have hlen := hq.len
    have big : (19 : Nat) ≤ sizeLine := by decide
    cases q with
    | whole n =>
      have hfree : (47 : Nat) ∉ tl (istr n) := istr_free (by omega)
      refine ⟨_, rfl, 47, istr n, congrArg V.str slash_one, rfl, true, ?_, iteT ⟨_, rfl, n, rfl, hq, fun H1 s1 => k H1 _ s1 (.int n)⟩⟩
      show V.bl (!decide (47 ∈ tl (istr n))) = _
      rw [decide_eq_false hfree]
      rfl
    | frac a b =>
      obtain ⟨ha, hb2, hb, hg⟩ := id hq
      have hmem : (47 : Nat) ∈ tl (Num.frac a b).txt := by
        rw [tl_frac]
        exact List.mem_append_right _ List.mem_cons_self
      refine ⟨_, rfl, 47, _, congrArg V.str slash_one, rfl, false, ?_, iteF ?_⟩
      · show V.bl (!decide (47 ∈ tl (Num.frac a b).txt)) = _
        rw [decide_eq_true hmem]
        rfl
      refine ⟨_, rfl, ⟨_, rfl⟩, _, _, rfl, rfl, by decide +kernel, by omega, fun p0 hp0 => ?_⟩
      have s0 : Same H (upd H p0 (.lst ((Txt.split (Num.frac a b).txt slash).map V.str))) := Same.one hp0
      refine ⟨2, rfl, p0, _, rfl, SqL.of upd_same, fun p1 hp1 => ?_⟩
      rw [frac_split] at s0 hp1 ⊢
      have s1 := Same.new (o := .lst (cutV ([istr a, istr b].map V.str) none (some 2))) s0 hp1
      have ecut : cutV ([istr a, istr b].map V.str) none (some 2) = [V.str (istr a), V.str (istr b)] := rfl
      refine ⟨p1, _, rfl, SqL.of upd_same, rfl, _, _, rfl, _, _, rfl, rfl, ?_⟩
      -- above, under = written(first), written(second)
      refine ⟨_, rfl, a, rfl, ha, fun H2 s2 => ⟨_, rfl, b, rfl, by omega, fun H3 s3 => ⟨_, _, rfl, ?_⟩⟩⟩
      have s13 : Same H H3 := (s1.trans s2).trans s3
      refine ⟨_, rfl, rfl, false, congrArg V.bl (dNon a), iteF ⟨_, rfl, rfl, false, congrArg V.bl (dNon b), iteF ⟨_, rfl, _, _, rfl, rfl, false, congrArg V.bl (decide_eq_false (by omega)), iteF ?_⟩⟩⟩
      have la := istr_len (n := a) ha
      have lb := istr_len (n := b) (by omega)
      have ls : (istr a ++ slash).length = (istr a).length + 1 := by
        rw [strLen_append]
        rfl
      refine ⟨_, rfl, _, rfl, _, _, rfl, rfl, (by show (istr a).length + 1 ≤ sizeLine; omega), _, rfl, _, _, rfl, rfl, (by rw [ls]; omega), rfl, false, ?_, iteF ?_⟩
      · show V.bl (!decide (V.str (Num.frac a b).txt = V.str (istr a ++ slash ++ istr b))) = _
        rw [decide_eq_true (show V.str (Num.frac a b).txt = V.str (istr a ++ slash ++ istr b) from rfl)]
        rfl
      have dfr : ∀ {Hx : Hp} {t : Addr}, Hx t = some (.tup [.int a, .int b]) → Dp K Hx (.ref t) (Num.frac a b).dat := fun h => num_frac (.inl (.inl h))
      refine ⟨_, rfl, _, rfl, a, b, rfl, hb2, hb, hg, fun t ht => ⟨_, rfl, _, rfl, by show 2 ≤ sizeLine; omega, fun t2 ht2 => ?_⟩⟩
      have nt : t ≠ t2 := ne_of_none upd_same ht2
      have sh : SeqAt.shaped (Num.frac a b).dat = true := shaped_of hq.nm (Nat.le_trans (Num.depth_le _) (by decide))
      refine ⟨_, _, dfr (by rw [upd_ne nt]; exact upd_same), dfr upd_same, sh, sh, true, congrArg V.bl (eqv_self _ hq.nm), iteT ⟨_, rfl, _, rfl, by show 2 ≤ sizeLine; omega, fun t3 ht3 => ?_⟩⟩
      exact k _ _ (Same.new (Same.new (Same.new s13 ht) ht2) ht3) (dfr upd_same)
end
end K6

set_option maxRecDepth 100000
set_option maxHeartbeats 4000000
/-! KD3: the class Scan. -/
namespace K6
open PySem PySem.Spec PyProof.Rows L2
open TL (tl)

/-! ### a class's defs as the top leaves them -/
structure Fm (K : PySem.W.Frag) (C : Addr) (m qual : Str) (st : Stmt) : Prop where
  ex : ∃ f fd, Fun K m qual st f fd ∧ Meth K C m f
structure Fi (K : PySem.W.Frag) (mg : Str → Option Value) (C : Addr) (x qual : Str) (st : Stmt) : Prop where
  ex : ∃ f fd, Fun K "__init__" qual st f fd ∧ Mk K C f
  at_ : mg x = some (.ref C)
section
variable {P : Program} {w : World} {K : PySem.W.Frag} {mg : Str → Option Value} {base : Heap}
theorem km_mk {C : Addr} {m qual : Str} {st : Stmt} {N ps : List Str} {k : Nat} {sp : Sp} (F : Fm K C m qual st) (S : FnScope N ps (defScope st)) (len : ∀ vs H Q E, sp vs H Q E → vs.length = ps.length)
    (bind : ∀ (kV doc pm : Value) (an : Option Addr) (cdv ct : Value) (us : List Value), us.length = ps.length → bindArgs (PySem.W.fnOf m qual (defArgs st) (defBody st) (defScope st) .none kV doc pm an cdv ct) ⟨us, []⟩ = pure (ps.zip us))
    (hbody : ∀ (f : Addr) (cdv : Value) (A : Around) (outer : List Env) (s : Shared) (H : Hp) (vs : List V) (Q : VK) (E : XK), Room k (A.deeper (envOfC qual (defScope st) s.heap.objs.size f cdv)) → sp vs H Q E →
      ∃ t, PSs (cxOf CX0 P w K mg base N qual (defScope st) f cdv A outer s H E).nox (defBody st) t ∧ t { nx := fun _ H' => Q .non H', rt := Q } (start N vs) H) : Km P w K mg base (k + 1) C m sp := by
  obtain ⟨f, fd, F1, M⟩ := F.ex
  exact ⟨⟨f, fd, ps, M, F1.ok S len (hbody f), F1.binds bind⟩⟩
/-- take_number has defaults; here both are given -/
theorem kc_mk {C : Addr} {x qual : Str} {st : Stmt} {N ps : List Str} {k : Nat} {sp : Sp} (F : Fi K mg C x qual st) (S : FnScope N ps (defScope st)) (len : ∀ vs H Q E, sp vs H Q E → vs.length = ps.length)
    (bind : ∀ (kV doc pm : Value) (an : Option Addr) (cdv ct : Value) (us : List Value), us.length = ps.length → bindArgs (PySem.W.fnOf "__init__" qual (defArgs st) (defBody st) (defScope st) .none kV doc pm an cdv ct) ⟨us, []⟩ = pure (ps.zip us))
    (hbody : ∀ (f : Addr) (cdv : Value) (A : Around) (outer : List Env) (s : Shared) (H : Hp) (vs : List V) (Q : VK) (E : XK), Room k (A.deeper (envOfC qual (defScope st) s.heap.objs.size f cdv)) → sp vs H Q E →
      ∃ t, PSs (cxOf CX0 P w K mg base N qual (defScope st) f cdv A outer s H E).nox (defBody st) t ∧ t { nx := fun _ H' => Q .non H', rt := Q } (start N vs) H) : Kc P w K mg base (k + 1) x C sp := by
  obtain ⟨f, fd, F1, M⟩ := F.ex
  exact ⟨⟨f, fd, ps, M, F1.ok S len (hbody f), F1.binds bind⟩, F.at_⟩

/-! ### a scan's attributes -/
theorem wa_ : ¬ (("words" : Str) = "at") := by decide +kernel
def sf (l : Addr) (k : Nat) : List (Str × V) := putF "at" (.int (k : Int)) (putF "words" (.ref l) [])
theorem sf_eq (l : Addr) (k : Nat) : sf l k = ([("words", V.ref l), ("at", V.int (k : Int))] : List (Str × V)) := by
  show (if ("words" : Str) = "at" then [(("words" : Str), V.int (k : Int))] else (("words" : Str), V.ref l) :: putF "at" (V.int (k : Int)) []) = _
  rw [if_neg wa_]
  rfl
theorem sf_words (l : Addr) (k : Nat) : (sf l k).lookup ("words" : Str) = some (.ref l) := by
  unfold sf
  rw [lookup_putF, if_neg wa_, lookup_putF, if_pos rfl]
theorem sf_at (l : Addr) (k : Nat) : (sf l k).lookup ("at" : Str) = some (.int (k : Int)) := by
  unfold sf
  rw [lookup_putF, if_pos rfl]
theorem sf_no (l : Addr) (k : Nat) {m : Str} (h1 : ¬ m = "at") (h2 : ¬ m = "words") : (sf l k).lookup m = none := by
  unfold sf
  rw [lookup_putF, if_neg h1, lookup_putF, if_neg h2]
  rfl
theorem sf_put (l : Addr) (k j : Nat) : putF "at" (.int (j : Int)) (sf l k) = sf l j := by
  rw [sf_eq, sf_eq]
  show (if ("words" : Str) = "at" then _ else (("words" : Str), V.ref l) :: (if ("at" : Str) = "at" then [(("at" : Str), V.int (j : Int))] else _)) = _
  rw [if_neg wa_, if_pos rfl]
/-- at p stands a scan of these words (a list at l), k of them taken -/
structure ScanAt (C : Addr) (H : Hp) (p l : Addr) (ws : List Str) (k : Nat) : Prop where
  ob : ∃ dx, H p = some (.ins C dx (sf l k))
  ws : H l = some (.lst (ws.map V.str))
theorem ScanAt.ne {C : Addr} {H : Hp} {p l : Addr} {ws : List Str} {k : Nat} (s : ScanAt C H p l ws k) : l ≠ p := by
  obtain ⟨dx, h⟩ := s.ob
  exact ne_of s.ws h (by intro q; cases q)
theorem ScanAt.same {C : Addr} {H H' : Hp} {p l : Addr} {ws : List Str} {k : Nat} (s : ScanAt C H p l ws k) (e : Same H H') : ScanAt C H' p l ws k :=
  ⟨let ⟨dx, h⟩ := s.ob; ⟨dx, e _ _ h⟩, e _ _ s.ws⟩
/-- what the top says of the class -/
structure ScT (K : PySem.W.Frag) (C : Addr) : Prop where
  cl : Cls K C
  nW : NoAttr K C "words"
  nA : NoAttr K C "at"

def spScanInit (C : Addr) : Sp := fun vs H Q _ => ∃ (p dx : Addr) (z : Str), vs = [.ref p, .str z] ∧ H p = some (.ins C dx []) ∧ z.length + 2 ≤ sizeLine ∧ ∀ H' l, H l = none → ScanAt C H' p l (Txt.split z blank) 0 → But p H H' → Q .non H'
theorem scScanInit : FnScope ["self", "text"] ["self", "text"] (defScope sScanInit) := ⟨rfl, rfl, rfl, by decide +kernel, rfl, by decide +kernel, by decide +kernel⟩
theorem ok_scanInit {C : Addr} (B : Bt mg) (T : ScT K C) (F : Fi K mg C "Scan" "Scan.__init__" sScanInit) : Kc P w K mg base 1 "Scan" C (spScanInit C) := by
  refine kc_mk F scScanInit (fun vs H Q E h => ?_) (fun _ _ _ _ _ _ us hl => match us, hl with | [_, _], _ => rfl) (fun f cdv A outer s H vs Q E hr h => ?_)
  · obtain ⟨p, dx, z, rfl, _⟩ := h
    rfl
  · obtain ⟨p, dx, z, rfl, hp, hz, k⟩ := h
    refine ⟨_, pss_cons (ps_if (pt_not (pt_val (pe_isi (pv 1) B.isi B.str_ (by rfl) (by rfl) PyProof.Rows.boot_str (by decide) (by decide)))) pss_never pss_nil)
      (pss_cons (ps_fld (pv 0) (pe_split (pv 1) pe_str) rfl) (pss_one (ps_fld (pv 0) pe_int rfl))), ?_⟩
    refine ⟨_, rfl, .type "str", true, .base (.str z), kit_ty (by decide +kernel), true, rfl, iteF ?_⟩
    refine ⟨_, rfl, ⟨_, rfl⟩, z, blank, rfl, rfl, by decide +kernel, hz, fun l hl => ?_⟩
    have npl : p ≠ l := ne_of_none hp hl
    refine ⟨_, rfl, p, C, dx, [], rfl, (by rw [upd_ne npl]; exact hp), T.cl, T.nW, (by show 0 < 1000; decide), _, rfl, p, C, dx, _, rfl, upd_same, T.cl, T.nA, (by show 1 < 1000; decide), ?_⟩
    refine k _ l hl ⟨⟨dx, upd_same⟩, ?_⟩ ?_
    · rw [upd_ne npl.symm, upd_ne npl.symm, upd_same]
    · exact (((But.refl p H).new hl).upd).upd

def wordAt (ws : List Str) (k : Nat) : V := match ws[k]? with
  | some x => .str x
  | none => .non
def spAhead (C : Addr) : Sp := fun vs H Q _ => ∃ (p l : Addr) (ws : List Str) (k : Nat), vs = [.ref p] ∧ ScanAt C H p l ws k ∧ Q (wordAt ws k) H
theorem scAhead : FnScope ["self"] ["self"] (defScope sAhead) := ⟨rfl, rfl, rfl, by decide +kernel, rfl, by decide +kernel, by decide +kernel⟩
theorem ok_ahead {C : Addr} (B : Bt mg) (T : ScT K C) (F : Fm K C "ahead" "Scan.ahead" sAhead) : Km P w K mg base 1 C "ahead" (spAhead C) := by
  refine km_mk F scAhead (fun vs H Q E h => ?_) (fun _ _ _ _ _ _ us hl => match us, hl with | [_], _ => rfl) (fun f cdv A outer s H vs Q E hr h => ?_)
  · obtain ⟨p, l, ws, k, rfl, _⟩ := h
    rfl
  · obtain ⟨p, l, ws, k, rfl, hs, q⟩ := h
    obtain ⟨dx, hp⟩ := hs.ob
    have hl := hs.ws
    refine ⟨_, pss_one (ps_ret (pe_ifExp (pt_cmpR op_lt (pe_fld (pv 0) rfl) (pe_callB call_len_seq (by rfl) B.len_ PySem.boot_len (pa_cons (pe_fld (pv 0) rfl) pa_nil)) (nomark _)) (pe_ix ix_list (pe_fld (pv 0) rfl) (pe_fld (pv 0) rfl) (fun _ _ => rfl)) pe_non)), ?_⟩
    refine ⟨_, rfl, p, C, dx, _, _, rfl, hp, T.cl, T.nA, sf_at _ _, _, rfl, p, C, dx, _, _, rfl, hp, T.cl, T.nW, sf_words _ _, l, _, rfl, .inl (SqL.of hl), _, _, rfl, rfl, ?_⟩
    rw [List.length_map]
    unfold wordAt at q
    by_cases hk : k < ws.length
    · refine ⟨true, congrArg V.bl (decide_eq_true (by omega)), iteT ?_⟩
      rw [List.getElem?_eq_getElem hk] at q
      refine ⟨_, rfl, p, C, dx, _, _, rfl, hp, T.cl, T.nW, sf_words _ _, _, rfl, p, C, dx, _, _, rfl, hp, T.cl, T.nA, sf_at _ _, l, _, _, V.str ws[k], rfl, rfl, SqL.of hl, atI_nat ?_, q⟩
      rw [List.getElem?_map, List.getElem?_eq_getElem hk]
      rfl
    · refine ⟨false, congrArg V.bl (decide_eq_false (by omega)), iteF ?_⟩
      rw [List.getElem?_eq_none (by omega)] at q
      exact q

def spTake (C : Addr) : Sp := fun vs H Q _ => ∃ (p l : Addr) (ws : List Str) (k : Nat) (x : Str), vs = [.ref p] ∧ ScanAt C H p l ws k ∧ ws[k]? = some x ∧ ∀ H', ScanAt C H' p l ws (k + 1) → But p H H' → Q (.str x) H'
theorem scTake : FnScope ["self", "item"] ["self"] (defScope sTake) := ⟨rfl, rfl, rfl, by decide +kernel, rfl, by decide +kernel, by decide +kernel⟩
theorem dNonS (x : Str) : decide (V.str x = V.non) = false := decide_eq_false (by intro h; cases h)
/-- one more taken -/
theorem ScanAt.step {C dx : Addr} {H : Hp} {p l : Addr} {ws : List Str} {k : Nat} (s : ScanAt C H p l ws k) : ScanAt C (upd H p (.ins C dx (putF "at" (.int ((k : Int) + 1)) (sf l k)))) p l ws (k + 1) := by
  have e : putF "at" (V.int ((k : Int) + 1)) (sf l k) = sf l (k + 1) := sf_put l k (k + 1)
  rw [e]
  exact ⟨⟨dx, upd_same⟩, by rw [upd_ne s.ne]; exact s.ws⟩
theorem ok_take {C : Addr} (T : ScT K C) (F : Fm K C "take" "Scan.take" sTake) (G : Km P w K mg base 1 C "ahead" (spAhead C)) : Km P w K mg base 2 C "take" (spTake C) := by
  refine km_mk F scTake (fun vs H Q E h => ?_) (fun _ _ _ _ _ _ us hl => match us, hl with | [_], _ => rfl) (fun f cdv A outer s H vs Q E hr h => ?_)
  · obtain ⟨p, l, ws, k, x, rfl, _⟩ := h
    rfl
  · obtain ⟨p, l, ws, k, x, rfl, hs, hx, q⟩ := h
    obtain ⟨dx, hp⟩ := hs.ob
    refine ⟨_, pss_cons (ps_set (i := 1) scTake.nd rfl (Or.inl rfl) (pe_km0 (pv 0) T.cl G hr)) (pss_cons (ps_if (pt_cmpR op_isN (pv 1) pe_non (nomark _)) pss_never pss_nil)
      (pss_cons (ps_fld (pv 0) (pe_op op_add (pe_fld (pv 0) rfl) pe_int) rfl) (pss_one (ps_ret (pv 1))))), ?_⟩
    refine ⟨_, rfl, p, dx, _, rfl, hp, sf_no _ _ (by decide +kernel) (by decide +kernel), p, l, ws, k, rfl, hs, ?_⟩
    have ew : wordAt ws k = V.str x := by
      unfold wordAt
      rw [hx]
    rw [ew]
    refine ⟨_, rfl, rfl, false, congrArg V.bl (dNonS x), iteF ?_⟩
    refine ⟨_, rfl, p, C, dx, _, _, rfl, hp, T.cl, T.nA, sf_at _ _, _, _, rfl, rfl, _, rfl, p, C, dx, _, rfl, hp, T.cl, T.nA, (by rw [sf_eq]; show 2 < 1000; decide), ?_⟩
    exact ⟨_, rfl, q _ hs.step But.put⟩

def spTakeJust (C : Addr) : Sp := fun vs H Q _ => ∃ (p l : Addr) (ws : List Str) (k : Nat) (x : Str), vs = [.ref p, .str x] ∧ ScanAt C H p l ws k ∧ ws[k]? = some x ∧ ∀ H', ScanAt C H' p l ws (k + 1) → But p H H' → Q (.str x) H'
theorem scTakeJust : FnScope ["self", "word"] ["self", "word"] (defScope sTakeJust) := ⟨rfl, rfl, rfl, by decide +kernel, rfl, by decide +kernel, by decide +kernel⟩
theorem ok_takeJust {C : Addr} (T : ScT K C) (F : Fm K C "take_just" "Scan.take_just" sTakeJust) (G : Km P w K mg base 1 C "ahead" (spAhead C)) (G2 : Km P w K mg base 2 C "take" (spTake C)) : Km P w K mg base 3 C "take_just" (spTakeJust C) := by
  refine km_mk F scTakeJust (fun vs H Q E h => ?_) (fun _ _ _ _ _ _ us hl => match us, hl with | [_, _], _ => rfl) (fun f cdv A outer s H vs Q E hr h => ?_)
  · obtain ⟨p, l, ws, k, x, rfl, _⟩ := h
    rfl
  · obtain ⟨p, l, ws, k, x, rfl, hs, hx, q⟩ := h
    obtain ⟨dx, hp⟩ := hs.ob
    refine ⟨_, pss_cons (ps_if (pt_cmpR op_ne (pe_km0 (pv 0) T.cl G hr) (pv 1) (nomark _)) pss_never pss_nil) (pss_one (ps_ret (pe_km0 (pv 0) T.cl G2 hr))), ?_⟩
    have ew : wordAt ws k = V.str x := by
      unfold wordAt
      rw [hx]
    refine ⟨_, rfl, p, dx, _, rfl, hp, sf_no _ _ (by decide +kernel) (by decide +kernel), p, l, ws, k, rfl, hs, ?_⟩
    rw [ew]
    refine ⟨_, rfl, rfl, false, ?_, iteF ?_⟩
    · show V.bl (!decide (V.str x = V.str x)) = _
      rw [decide_eq_true (rfl : V.str x = V.str x)]
      rfl
    · exact ⟨_, rfl, p, dx, _, rfl, hp, sf_no _ _ (by decide +kernel) (by decide +kernel), p, l, ws, k, x, rfl, hs, hx, q⟩

def spFinish (C : Addr) : Sp := fun vs H Q _ => ∃ (p l : Addr) (ws : List Str) (k : Nat), vs = [.ref p] ∧ ScanAt C H p l ws k ∧ ws.length ≤ k ∧ Q .non H
theorem scFinish : FnScope ["self"] ["self"] (defScope sFinish) := ⟨rfl, rfl, rfl, by decide +kernel, rfl, by decide +kernel, by decide +kernel⟩
theorem ok_finish {C : Addr} (B : Bt mg) (T : ScT K C) (F : Fm K C "finish" "Scan.finish" sFinish) : Km P w K mg base 1 C "finish" (spFinish C) := by
  refine km_mk F scFinish (fun vs H Q E h => ?_) (fun _ _ _ _ _ _ us hl => match us, hl with | [_], _ => rfl) (fun f cdv A outer s H vs Q E hr h => ?_)
  · obtain ⟨p, l, ws, k, rfl, _⟩ := h
    rfl
  · obtain ⟨p, l, ws, k, rfl, hs, hk, q⟩ := h
    obtain ⟨dx, hp⟩ := hs.ob
    have hl := hs.ws
    refine ⟨_, pss_one (ps_if (pt_cmpR op_lt (pe_fld (pv 0) rfl) (pe_callB call_len_seq (by rfl) B.len_ PySem.boot_len (pa_cons (pe_fld (pv 0) rfl) pa_nil)) (nomark _)) pss_never pss_nil), ?_⟩
    refine ⟨_, rfl, p, C, dx, _, _, rfl, hp, T.cl, T.nA, sf_at _ _, _, rfl, p, C, dx, _, _, rfl, hp, T.cl, T.nW, sf_words _ _, l, _, rfl, .inl (SqL.of hl), _, _, rfl, rfl, false, congrArg V.bl (decide_eq_false ?_), iteF q⟩
    rw [List.length_map]
    omega

/-- a method with defaults, here called with all its parameters -/
structure FmD (K : PySem.W.Frag) (C : Addr) (m qual : Str) (st : Stmt) (dvs : List V) : Prop where
  ex : ∃ f fd, FunD K m qual (defArgs st) (defBody st) (defScope st) dvs [] f fd ∧ Meth K C m f
def spTakeNumber (C : Addr) : Sp := fun vs H Q _ => ∃ (p l : Addr) (ws : List Str) (k : Nat) (lo hi n : Int), vs = [.ref p, .int lo, .int hi] ∧ ScanAt C H p l ws k ∧ ws[k]? = some (istr n) ∧ lo ≤ n ∧ n ≤ hi ∧ n.natAbs ≤ 1000000 ∧
  ∀ H', ScanAt C H' p l ws (k + 1) → But p H H' → Q (.int n) H'
theorem scTakeNumber : FnScope ["self", "least", "most", "item", "number"] ["self", "least", "most"] (defScope sTakeNumber) := ⟨rfl, rfl, rfl, by decide +kernel, rfl, by decide +kernel, by decide +kernel⟩
theorem ok_takeNumber {C g1 g2 : Addr} (T : ScT K C) (F : FmD K C "take_number" "Scan.take_number" sTakeNumber [.non, .non]) (G : Km P w K mg base 1 C "ahead" (spAhead C)) (G1 : Kp P w K mg base 1 "written" g1 spWritten) (G2 : Kp P w K mg base 2 "is_within" g2 spIsWithin) :
    Km P w K mg base 3 C "take_number" (spTakeNumber C) := by
  obtain ⟨f, fd, F1, M⟩ := F.ex
  obtain ⟨ds, hds, hb⟩ := F1.binds1 (ps := ["self", "least", "most"]) 3 2 (by simp) rfl (fun T kV doc pm an cdv ct us its h1 h2 => match us, its, h1, h2 with | [_, _, _], [_, _], _, _ => ⟨_, rfl, rfl⟩)
  cases hds
  refine ⟨⟨f, fd, _, M, F1.ok scTakeNumber (fun vs H Q E h => ?_) (fun cdv A outer s H vs Q E hr h => ?_), hb⟩⟩
  · obtain ⟨p, l, ws, k, lo, hi, n, rfl, _⟩ := h
    rfl
  · obtain ⟨p, l, ws, k, lo, hi, n, rfl, hs, hx, h1, h2, h3, q⟩ := h
    obtain ⟨dx, hp⟩ := hs.ob
    suffices z : ∃ t, PSs (cxOf CX0 P w K mg base ["self", "least", "most", "item", "number"] "Scan.take_number" (defScope sTakeNumber) f cdv A outer s H E).nox (defBody sTakeNumber) t ∧ t { nx := fun _ H' => Q .non H', rt := Q } (L2.start ["self", "least", "most", "item", "number"] [V.ref p, V.int lo, V.int hi]) H from
      let ⟨t, z1, z2⟩ := z; ⟨t, z1.nox, z2⟩
    refine ⟨_, pss_cons (ps_set (i := 3) scTakeNumber.nd rfl (Or.inl rfl) (pe_km0 (pv 0) T.cl G hr)) (pss_cons (ps_set (i := 4) scTakeNumber.nd rfl (Or.inl rfl) (pe_ifExp (pt_cmpR op_isN (pv 3) pe_non (nomark _)) pe_non (pe_k G1 hr (pa_cons (pv 3) pa_nil))))
      (pss_cons (ps_if (pt_not (pt_val (pe_k G2 hr (pa_cons (pv 4) (pa_cons (pv 1) (pa_cons (pv 2) pa_nil)))))) pss_never pss_nil)
      (pss_cons (ps_fld (pv 0) (pe_op op_add (pe_fld (pv 0) rfl) pe_int) rfl) (pss_one (ps_ret (pv 4)))))), ?_⟩
    refine ⟨_, rfl, p, dx, _, rfl, hp, sf_no _ _ (by decide +kernel) (by decide +kernel), p, l, ws, k, rfl, hs, ?_⟩
    have ew : wordAt ws k = V.str (istr n) := by
      unfold wordAt
      rw [hx]
    rw [ew]
    refine ⟨_, rfl, rfl, false, congrArg V.bl (dNonS _), iteF ⟨_, rfl, n, rfl, h3, fun H1 s1 => ?_⟩⟩
    have hp1 := s1 _ _ hp
    refine ⟨_, rfl, _, rfl, _, rfl, n, some lo, some hi, rfl, (fun x e => by cases e; exact h1), (fun x e => by cases e; exact h2), true, rfl, iteF ?_⟩
    refine ⟨_, rfl, p, C, dx, _, _, rfl, hp1, T.cl, T.nA, sf_at _ _, _, _, rfl, rfl, _, rfl, p, C, dx, _, rfl, hp1, T.cl, T.nA, (by rw [sf_eq]; show 2 < 1000; decide), ?_⟩
    exact ⟨_, rfl, q _ (hs.same s1).step (But.trans (But.of s1) But.put)⟩

def spTakeFraction (K : PySem.W.Frag) (C fs : Addr) : Sp := fun vs H Q _ => ∃ (p l : Addr) (ws : List Str) (k : Nat) (q : Num), vs = [.ref p, .ref fs] ∧ ScanAt C H p l ws k ∧ ws[k]? = some q.txt ∧ q.Ok ∧
  ∀ H' v, ScanAt C H' p l ws (k + 1) → But p H H' → Dp K H' v q.dat → Q v H'
theorem scTakeFraction : FnScope ["self", "is_let", "item", "number"] ["self", "is_let"] (defScope sTakeFraction) := ⟨rfl, rfl, rfl, by decide +kernel, rfl, by decide +kernel, by decide +kernel⟩
theorem ok_takeFraction {C fs g1 : Addr} (T : ScT K C) (F : Fm K C "take_fraction" "Scan.take_fraction" sTakeFraction) (G : Km P w K mg base 1 C "ahead" (spAhead C)) (G1 : Kp P w K mg base 3 "written_fraction" g1 (spWrittenFraction K)) (G2 : Kp P w K mg base 4 "is_small" fs (spIsTrue K)) :
    Km P w K mg base 5 C "take_fraction" (spTakeFraction K C fs) := by
  refine km_mk F scTakeFraction (fun vs H Q E h => ?_) (fun _ _ _ _ _ _ us hl => match us, hl with | [_, _], _ => rfl) (fun f cdv A outer s H vs Q E hr h => ?_)
  · obtain ⟨p, l, ws, k, q, rfl, _⟩ := h
    rfl
  · obtain ⟨p, l, ws, k, q, rfl, hs, hx, hq, kk⟩ := h
    obtain ⟨dx, hp⟩ := hs.ob
    refine ⟨_, pss_cons (ps_set (i := 2) scTakeFraction.nd rfl (Or.inl rfl) (pe_km0 (pv 0) T.cl G hr)) (pss_cons (ps_set (i := 3) scTakeFraction.nd rfl (Or.inl rfl) (pe_ifExp (pt_cmpR op_isN (pv 2) pe_non (nomark _)) pe_non (pe_k G1 hr (pa_cons (pv 2) pa_nil))))
      (pss_cons (ps_if (PW.pt (pw_or (pt_cmpR op_isN (pv 3) pe_non (nomark _)) (pw_or1 (pt_not (pt_val (pe_kl (i := 1) G2 hr rfl (Or.inl rfl) (pa_cons (pv 3) pa_nil))))))) pss_never pss_nil)
      (pss_cons (ps_fld (pv 0) (pe_op op_add (pe_fld (pv 0) rfl) pe_int) rfl) (pss_one (ps_ret (pv 3)))))), ?_⟩
    refine ⟨_, rfl, p, dx, _, rfl, hp, sf_no _ _ (by decide +kernel) (by decide +kernel), p, l, ws, k, rfl, hs, ?_⟩
    have ew : wordAt ws k = V.str q.txt := by
      unfold wordAt
      rw [hx]
    rw [ew]
    refine ⟨_, rfl, rfl, false, congrArg V.bl (dNonS _), iteF ⟨_, rfl, q, rfl, hq, fun H1 v s1 hv => ?_⟩⟩
    have nn : decide (v = V.non) = false := by
      rcases num_cases hv with ⟨n, _, rfl⟩ | ⟨a, b, t, _, rfl, _⟩
      · exact dNon n
      · exact decide_eq_false (by intro h; cases h)
    refine ⟨_, rfl, rfl, false, congrArg V.bl nn, iteF ⟨rfl, _, rfl, v, q, rfl, hv, hq, fun H2 s2 => ⟨true, rfl, iteF ?_⟩⟩⟩
    have s12 : Same H H2 := s1.trans s2
    have hp2 := s12 _ _ hp
    have hs2 := hs.same s12
    refine ⟨_, rfl, p, C, dx, _, _, rfl, hp2, T.cl, T.nA, sf_at _ _, _, _, rfl, rfl, _, rfl, p, C, dx, _, rfl, hp2, T.cl, T.nA, (by rw [sf_eq]; show 2 < 1000; decide), ?_⟩
    exact ⟨_, rfl, kk _ _ hs2.step (But.trans (But.of s12) But.put) (dp_but hp2 (noTup_ins _ _ _) But.put _ _ hq.nm (dp_same s2 _ _ hv))⟩
end
end K6

set_option maxRecDepth 100000
set_option maxHeartbeats 4000000
/-! KD4: pieces: what they are, kept, unlike. -/
namespace K6
open PySem PySem.Spec PyProof.Rows L2
open TL (tl)

section
variable {K : PySem.W.Frag} {H : Hp}
theorem dpAll_of : ∀ {ds : List PyData} {ys : List V}, ys.length = ds.length → (∀ (i : Nat) v, ys[i]? = some v → ∃ d, ds[i]? = some d ∧ Dp K H v d) → DpAll K H ys ds
  | [], [], _, _ => .nil
  | [], _ :: _, h, _ => by simp at h
  | _ :: _, [], h, _ => by simp at h
  | d :: ds, v :: ys, hl, h => by
    obtain ⟨d', e, h1⟩ := h 0 v rfl
    cases e
    refine .cons h1 (dpAll_of (by simpa using hl) fun i u hu => ?_)
    obtain ⟨e, q1, q2⟩ := h (i + 1) u (by simpa using hu)
    exact ⟨e, by simpa using q1, q2⟩
theorem row_at {r : List Num} {xs : List V} {i : Nat} {x : V} (ha : DpAll K H xs (r.map Num.dat)) (hx : xs[i]? = some x) : ∃ q, r[i]? = some q ∧ Dp K H x q.dat := by
  obtain ⟨d, hd, h⟩ := dpAll_get ha hx
  rw [List.getElem?_map] at hd
  obtain ⟨q, hq, rfl⟩ := Option.map_eq_some_iff.mp hd
  exact ⟨q, hq, h⟩
theorem rows_at {rs : List (List Num)} {xs : List V} {i : Nat} {x : V} (ha : DpAll K H xs (rs.map rowD)) (hx : xs[i]? = some x) : ∃ r, rs[i]? = some r ∧ Dp K H x (rowD r) := by
  obtain ⟨d, hd, h⟩ := dpAll_get ha hx
  rw [List.getElem?_map] at hd
  obtain ⟨q, hq, rfl⟩ := Option.map_eq_some_iff.mp hd
  exact ⟨q, hq, h⟩
theorem pieces_at {ps : List Piece} {xs : List V} {i : Nat} {x : V} (ha : DpAll K H xs (dats ps)) (hx : xs[i]? = some x) : ∃ p, ps[i]? = some p ∧ Dp K H x p.dat := by
  obtain ⟨d, hd, h⟩ := dpAll_get ha hx
  rw [List.getElem?_map] at hd
  obtain ⟨q, hq, rfl⟩ := Option.map_eq_some_iff.mp hd
  exact ⟨q, hq, h⟩
/-- data stays when the list being made grows -/
theorem dp_put {d : PyData} {v : V} {D : Addr} {acc acc' : List V} (hn : nm d = true) (hD : H D = some (.lst acc)) (h : Dp K H v d) : Dp K (upd H D (.lst acc')) v d := dp_but hD (noTup_lst _) But.put d v hn h
theorem dpAll_put {ds : List PyData} {vs : List V} {D : Addr} {acc acc' : List V} (hn : nmAll ds = true) (hD : H D = some (.lst acc)) (h : DpAll K H vs ds) : DpAll K (upd H D (.lst acc')) vs ds := dpAll_but hD (noTup_lst _) But.put ds vs hn h
end
section
variable {P : Program} {w : World} {K : PySem.W.Frag} {mg : Str → Option Value} {base : Heap}
def spIsRow (K : PySem.W.Frag) : Sp := fun vs H Q _ => ∃ (v : V) (n : Nat) (r : List Num), vs = [v, .int (n : Int)] ∧ Dp K H v (rowD r) ∧ r.length = n ∧ n ≤ 2 ∧ (∀ q ∈ r, q.Ok) ∧ ∀ H', Same H H' → Q (.bl true) H'
theorem scIsRow : FnScope ["value", "wide", "each"] ["value", "wide"] (defScope sIsRow) := ⟨rfl, rfl, rfl, by decide +kernel, rfl, by decide +kernel, by decide +kernel⟩
theorem small_lt {n : Nat} (h : n ≤ 100) : n < sizeLine := Nat.lt_of_le_of_lt h (by decide)
theorem ok_isRow {f g1 g2 : Addr} (T : Bt mg) (F : Fx K mg "is_row" sIsRow f) (G1 : Kp P w K mg base 1 "is_list" g1 (spIsList K)) (G2 : Kp P w K mg base 4 "is_small" g2 (spIsTrue K)) : Kp P w K mg base 5 "is_row" f (spIsRow K) := by
  refine kp_mk F scIsRow (fun vs H Q E h => ?_) (fun _ _ _ _ _ _ us hl => match us, hl with | [_, _], _ => rfl) (fun cdv A outer s H vs Q E hr h => ?_)
  · obtain ⟨v, n, r, rfl, _⟩ := h
    rfl
  · obtain ⟨v, n, r, rfl, hv, hn, hn2, hq, k⟩ := h
    obtain ⟨t, xs, rfl, hs, ha⟩ := dp_tup hv
    have hxl : xs.length = r.length := by rw [dpAll_len ha, List.length_map]
    refine ⟨_, pss_one (ps_ret (pe_and (pe_k G1 hr (pa_cons (pv 0) pa_nil)) (pe_and (pe_cmpR op_eq (pe_callB call_len_seq (by rfl) T.len_ PySem.boot_len (pa_cons (pv 0) pa_nil)) (pv 1) (nomark _))
      (pe_one (pe_callB (cr_all rfl) (by rfl) T.all_ PyProof.Rows.boot_all (pa_cons (pe_lc (own := [("each", 2)]) (g := gName 2) (tt := tYes) rfl scIsRow.nd (pi_tup (pv 0)) (blkOk_by (own := [("each", 2)]) (N := ["value", "wide", "each"]) (sc := defScope sIsRow) (by decide +kernel))
        (fun _ _ _ _ _ => pg_name (i := 2) scIsRow.nd rfl (Or.inl rfl)) (fun _ _ _ _ _ => pts_nil) (fun _ _ _ _ _ => pe_k G2 hr (pa_cons (pv 2) pa_nil))) pa_nil)))))), ?_⟩
    refine ⟨_, rfl, _, _, rfl, .inr ⟨t, xs, rfl, .inl hs, rfl⟩, fun H1 s1 => ⟨true, rfl, iteT ?_⟩⟩
    have hs1 := sqT_same s1 hs
    refine ⟨_, rfl, t, xs, rfl, .inr hs1, _, rfl, rfl, true, congrArg V.bl (decide_eq_true (by rw [hxl, hn])), iteT ?_⟩
    refine ⟨_, rfl, t, rfl, ⟨_, hs1⟩, fun D hD => lc_same (walk_tup (xs := xs)) (small_lt (by omega)) hD (fun i v H => v = V.bl true) (fun _ _ _ _ _ _ h => h) (fun _ _ _ _ _ h => h) (fun acc H2 sm _ => sqT_same sm hs1) (fun _ _ _ _ h => h.1) ?_ ?_⟩
    · rintro i acc x H2 Post hi sm hDD ⟨_, hx⟩ post
      obtain ⟨q, hqi, hdq⟩ := row_at (dpAll_same (s1.trans sm) _ _ ha) hx
      exact ⟨rfl, _, rfl, x, q, rfl, hdq, hq q (List.mem_of_getElem? hqi), fun H3 s3 => post _ _ s3 rfl⟩
    · intro ys H2 hlen hT sm hDD
      refine ⟨D, List.replicate ys.length true, rfl, by rw [← all_true hT]; exact SqL.of hDD, ?_⟩
      rw [rep_all]
      exact k _ (s1.trans sm)

def cornerD (c : List Int) : PyData := .tuple (c.map .int)
def spIsCorner (K : PySem.W.Frag) : Sp := fun vs H Q _ => ∃ (v : V) (n : Nat) (c : List Int), vs = [v, .int (n : Int)] ∧ Dp K H v (cornerD c) ∧ c.length = n ∧ n ≤ 2 ∧ (∀ x ∈ c, -1000 ≤ x ∧ x ≤ 1000) ∧ ∀ H', Same H H' → Q (.bl true) H'
theorem scIsCorner : FnScope ["value", "wide", "each"] ["value", "wide"] (defScope sIsCorner) := ⟨rfl, rfl, rfl, by decide +kernel, rfl, by decide +kernel, by decide +kernel⟩
theorem ok_isCorner {f g1 g2 : Addr} (T : Bt mg) (N : Cn mg) (F : Fx K mg "is_corner" sIsCorner f) (G1 : Kp P w K mg base 1 "is_list" g1 (spIsList K)) (G2 : Kp P w K mg base 2 "is_within" g2 spIsWithin) : Kp P w K mg base 3 "is_corner" f (spIsCorner K) := by
  refine kp_mk F scIsCorner (fun vs H Q E h => ?_) (fun _ _ _ _ _ _ us hl => match us, hl with | [_, _], _ => rfl) (fun cdv A outer s H vs Q E hr h => ?_)
  · obtain ⟨v, n, r, rfl, _⟩ := h
    rfl
  · obtain ⟨v, n, c, rfl, hv, hn, hn2, hq, k⟩ := h
    obtain ⟨t, xs, rfl, hs, ha⟩ := dp_tup hv
    have ex : xs = c.map V.int := dpAll_ints_of ha
    subst ex
    refine ⟨_, pss_one (ps_ret (pe_and (pe_k G1 hr (pa_cons (pv 0) pa_nil)) (pe_and (pe_cmpR op_eq (pe_callB call_len_seq (by rfl) T.len_ PySem.boot_len (pa_cons (pv 0) pa_nil)) (pv 1) (nomark _))
      (pe_one (pe_callB (cr_all rfl) (by rfl) T.all_ PyProof.Rows.boot_all (pa_cons (pe_lc (own := [("each", 2)]) (g := gName 2) (tt := tYes) rfl scIsCorner.nd (pi_tup (pv 0)) (blkOk_by (own := [("each", 2)]) (N := ["value", "wide", "each"]) (sc := defScope sIsCorner) (by decide +kernel))
        (fun _ _ _ _ _ => pg_name (i := 2) scIsCorner.nd rfl (Or.inl rfl)) (fun _ _ _ _ _ => pts_nil) (fun _ _ _ _ _ => pe_k G2 hr (pa_cons (pv 2) (pa_cons (pe_un un_neg (pe_cn N.far)) (pa_cons (pe_cn N.far) pa_nil))))) pa_nil)))))), ?_⟩
    refine ⟨_, rfl, _, _, rfl, .inr ⟨t, _, rfl, .inl hs, rfl⟩, fun H1 s1 => ⟨true, rfl, iteT ?_⟩⟩
    have hs1 := sqT_same s1 hs
    refine ⟨_, rfl, t, _, rfl, .inr hs1, _, rfl, rfl, true, congrArg V.bl (decide_eq_true (by rw [List.length_map, hn])), iteT ?_⟩
    refine ⟨_, rfl, t, rfl, ⟨_, hs1⟩, fun D hD => lc_same (walk_tup (xs := c.map V.int)) (small_lt (by rw [List.length_map]; omega)) hD (fun i v H => v = V.bl true) (fun _ _ _ _ _ _ h => h) (fun _ _ _ _ _ h => h) (fun acc H2 sm _ => sqT_same sm hs1) (fun _ _ _ _ h => h.1) ?_ ?_⟩
    · rintro i acc x H2 Post hi sm hDD ⟨_, hx⟩ post
      rw [List.getElem?_map] at hx
      obtain ⟨z, hz, rfl⟩ := Option.map_eq_some_iff.mp hx
      have hb := hq z (List.mem_of_getElem? hz)
      refine ⟨rfl, _, rfl, 1000, rfl, z, some (-1000), some 1000, rfl, (fun y e => by cases e; exact hb.1), (fun y e => by cases e; exact hb.2), post _ _ (Same.refl _) rfl⟩
    · intro ys H2 hlen hT sm hDD
      refine ⟨D, List.replicate ys.length true, rfl, by rw [← all_true hT]; exact SqL.of hDD, ?_⟩
      rw [rep_all]
      exact k _ (s1.trans sm)

/-- a piece's three parts -/
theorem piece_parts {H : Hp} {v : V} {p : Piece} (h : Dp K H v p.dat) : ∃ t x y z, v = .ref t ∧ SqT K H t [x, y, z] ∧ Dp K H x (cornerD p.c) ∧ Dp K H y (.tuple (p.rows.map rowD)) ∧ Dp K H z (rowD p.s) := by
  obtain ⟨t, xs, rfl, hs, ha⟩ := dp_tup h
  obtain ⟨x, y, z, rfl, h1, h2, h3⟩ := dpAll_3 ha
  exact ⟨t, x, y, z, rfl, hs, h1, h2, h3⟩
def spIsPiece (K : PySem.W.Frag) : Sp := fun vs H Q _ => ∃ (v : V) (n : Nat) (p : Piece), vs = [v, .int (n : Int)] ∧ Dp K H v p.dat ∧ n ≤ 2 ∧ p.Ok n ∧ ∀ H', Same H H' → Q (.bl true) H'
theorem scIsPiece : FnScope ["value", "wide", "row"] ["value", "wide"] (defScope sIsPiece) := ⟨rfl, rfl, rfl, by decide +kernel, rfl, by decide +kernel, by decide +kernel⟩
theorem ok_isPiece {f g1 g2 g3 : Addr} (T : Bt mg) (F : Fx K mg "is_piece" sIsPiece f) (G1 : Kp P w K mg base 1 "is_list" g1 (spIsList K)) (G2 : Kp P w K mg base 3 "is_corner" g2 (spIsCorner K)) (G3 : Kp P w K mg base 5 "is_row" g3 (spIsRow K)) : Kp P w K mg base 6 "is_piece" f (spIsPiece K) := by
  refine kp_mk F scIsPiece (fun vs H Q E h => ?_) (fun _ _ _ _ _ _ us hl => match us, hl with | [_, _], _ => rfl) (fun cdv A outer s H vs Q E hr h => ?_)
  · obtain ⟨v, n, r, rfl, _⟩ := h
    rfl
  · obtain ⟨v, n, p, rfl, hv, hn2, hp, k⟩ := h
    obtain ⟨t, x, y, z, rfl, hs, hx, hy, hz⟩ := piece_parts hv
    obtain ⟨ty, ys, rfl, hys, hya⟩ := dp_tup hy
    have hyl : ys.length = p.rows.length := by rw [dpAll_len hya, List.length_map]
    refine ⟨_, pss_cons (ps_if (PW.pt (pw_or (pt_not (pt_val (pe_k G1 hr (pa_cons (pv 0) pa_nil)))) (pw_or (pt_cmpR op_ne (pe_callB call_len_seq (by rfl) T.len_ PySem.boot_len (pa_cons (pv 0) pa_nil)) pe_int (nomark _))
          (pw_or (pt_not (pt_val (pe_k G2 hr (pa_cons (pe_ix ix_tup (pv 0) pe_int (fun _ _ => rfl)) (pa_cons (pv 1) pa_nil)))))
            (pw_or1 (pt_not (pt_val (pe_k G3 hr (pa_cons (pe_ix ix_tup (pv 0) pe_int (fun _ _ => rfl)) (pa_cons (pv 1) pa_nil)))))))))) pss_never pss_nil)
      (pss_one (ps_ret (pe_and (pe_k G1 hr (pa_cons (pe_ix ix_tup (pv 0) pe_int (fun _ _ => rfl)) pa_nil)) (pe_and (pe_cmpR op_eq (pe_callB call_len_seq (by rfl) T.len_ PySem.boot_len (pa_cons (pe_ix ix_tup (pv 0) pe_int (fun _ _ => rfl)) pa_nil)) (pv 1) (nomark _))
      (pe_one (pe_callB (cr_all rfl) (by rfl) T.all_ PyProof.Rows.boot_all (pa_cons (pe_lc (own := [("row", 2)]) (g := gName 2) (tt := tYes) rfl scIsPiece.nd (pi_tup (pe_ix ix_tup (pv 0) pe_int (fun _ _ => rfl))) (blkOk_by (own := [("row", 2)]) (N := ["value", "wide", "row"]) (sc := defScope sIsPiece) (by decide +kernel))
        (fun _ _ _ _ _ => pg_name (i := 2) scIsPiece.nd rfl (Or.inl rfl)) (fun _ _ _ _ _ => pts_nil) (fun _ _ _ _ _ => pe_k G3 hr (pa_cons (pv 2) (pa_cons (pv 1) pa_nil)))) pa_nil))))))), ?_⟩
    refine ⟨_, rfl, _, _, rfl, .inr ⟨t, _, rfl, .inl hs, rfl⟩, fun H1 s1 => ⟨true, rfl, iteF ?_⟩⟩
    have hs1 := sqT_same s1 hs
    refine ⟨_, rfl, t, _, rfl, .inr hs1, rfl, false, rfl, iteF ?_⟩
    refine ⟨_, rfl, t, _, _, _, rfl, rfl, hs1, rfl, _, rfl, x, n, p.c, rfl, dp_same s1 _ _ hx, hp.cl, hn2, hp.cb, fun H2 s2 => ⟨true, rfl, iteF ?_⟩⟩
    have s12 : Same H H2 := s1.trans s2
    have hs2 := sqT_same s12 hs
    refine ⟨_, rfl, t, _, _, _, rfl, rfl, hs2, rfl, _, rfl, z, n, p.s, rfl, dp_same s12 _ _ hz, hp.sl, hn2, hp.so, fun H3 s3 => ⟨true, rfl, iteF ?_⟩⟩
    have s13 : Same H H3 := s12.trans s3
    have hs3 := sqT_same s13 hs
    refine ⟨_, rfl, t, _, _, _, rfl, rfl, hs3, rfl, _, _, rfl, .inr ⟨ty, _, rfl, .inl (sqT_same s13 hys), rfl⟩, fun H4 s4 => ⟨true, rfl, iteT ?_⟩⟩
    have s14 : Same H H4 := s13.trans s4
    have hs4 := sqT_same s14 hs
    have hys4 := sqT_same s14 hys
    refine ⟨_, rfl, t, _, _, _, rfl, rfl, hs4, rfl, ty, _, rfl, .inr hys4, _, rfl, rfl, true, congrArg V.bl (decide_eq_true (by rw [hyl, hp.rl])), iteT ?_⟩
    refine ⟨_, rfl, t, _, _, _, rfl, rfl, hs4, rfl, ty, rfl, ⟨_, hys4⟩, fun D hD => lc_same (walk_tup (xs := ys)) (small_lt (by rw [hyl, hp.rl]; omega)) hD (fun i v H => v = V.bl true) (fun _ _ _ _ _ _ h => h) (fun _ _ _ _ _ h => h) (fun acc H2 sm _ => sqT_same sm hys4) (fun _ _ _ _ h => h.1) ?_ ?_⟩
    · rintro i acc x H5 Post hi sm hDD ⟨_, hx⟩ post
      obtain ⟨r, hri, hdr⟩ := rows_at (dpAll_same (s14.trans sm) _ _ hya) hx
      have hr2 := hp.rw r (List.mem_of_getElem? hri)
      exact ⟨rfl, _, rfl, _, rfl, x, n, r, rfl, hdr, hr2.1, hn2, hr2.2, fun H6 s6 => post _ _ s6 rfl⟩
    · intro ys' H5 hlen hT sm hDD
      refine ⟨D, List.replicate ys'.length true, rfl, by rw [← all_true hT]; exact SqL.of hDD, ?_⟩
      rw [rep_all]
      exact k _ (s14.trans sm)

/-- the items of a list that has just been made are the data ds -/
theorem all_of {α : Type} {H : Hp} {f : α → PyData} {l : List α} {ys : List V} (hl : ys.length = l.length) (h : ∀ (i : Nat) v, ys[i]? = some v → ∃ q, l[i]? = some q ∧ Dp K H v (f q)) : DpAll K H ys (l.map f) :=
  dpAll_of (by rw [List.length_map]; exact hl) fun i v hv => by
    obtain ⟨q, h1, h2⟩ := h i v hv
    exact ⟨f q, by rw [List.getElem?_map, h1]; rfl, h2⟩
def spKeptRow (K : PySem.W.Frag) : Sp := fun vs H Q _ => ∃ (v : V) (r : List Num), vs = [v] ∧ Dp K H v (rowD r) ∧ r.length ≤ 2 ∧ (∀ q ∈ r, q.Ok) ∧ ∀ H' v', Same H H' → Dp K H' v' (rowD r) → Q v' H'
theorem scKeptRow : FnScope ["row", "each"] ["row"] (defScope sKeptRow) := ⟨rfl, rfl, rfl, by decide +kernel, rfl, by decide +kernel, by decide +kernel⟩
theorem ok_keptRow {f g1 : Addr} (T : Bt mg) (F : Fx K mg "kept_row" sKeptRow f) (G1 : Kp P w K mg base 2 "kept_number" g1 (spKeptNumber K)) : Kp P w K mg base 3 "kept_row" f (spKeptRow K) := by
  refine kp_mk F scKeptRow (fun vs H Q E h => ?_) (fun _ _ _ _ _ _ us hl => match us, hl with | [_], _ => rfl) (fun cdv A outer s H vs Q E hr h => ?_)
  · obtain ⟨v, r, rfl, _⟩ := h
    rfl
  · obtain ⟨v, r, rfl, hv, hn2, hq, k⟩ := h
    obtain ⟨t, xs, rfl, hs, ha⟩ := dp_tup hv
    have hxl : xs.length = r.length := by rw [dpAll_len ha, List.length_map]
    refine ⟨_, pss_one (ps_ret (pe_callTy call_tuple_of (by rfl) T.tuple_ PyProof.Rows.boot_tuple (pa_cons (pe_lc (own := [("each", 1)]) (g := gName 1) (tt := tYes) rfl scKeptRow.nd (pi_tup (pv 0)) (blkOk_by (own := [("each", 1)]) (N := ["row", "each"]) (sc := defScope sKeptRow) (by decide +kernel))
        (fun _ _ _ _ _ => pg_name (i := 1) scKeptRow.nd rfl (Or.inl rfl)) (fun _ _ _ _ _ => pts_nil) (fun _ _ _ _ _ => pe_k G1 hr (pa_cons (pv 1) pa_nil))) pa_nil))), ?_⟩
    refine ⟨_, rfl, t, rfl, ⟨_, hs⟩, fun D hD => lc_same (walk_tup (xs := xs)) (small_lt (by omega)) hD (fun i v H => ∃ q, r[i]? = some q ∧ q.Ok ∧ Dp K H v q.dat) (fun i v H acc acc' hDD ⟨q, h1, h2, h3⟩ => ⟨q, h1, h2, dp_put h2.nm hDD h3⟩) (fun i v H H' e ⟨q, h1, h2, h3⟩ => ⟨q, h1, h2, dp_same e _ _ h3⟩)
      (fun acc H2 sm _ => sqT_same sm hs) (fun _ _ _ _ h => h.1) ?_ ?_⟩
    · rintro i acc x H2 Post hi sm hDD ⟨_, hx⟩ post
      obtain ⟨q, hqi, hdq⟩ := row_at (dpAll_same sm _ _ ha) hx
      exact ⟨rfl, _, rfl, x, q, rfl, hdq, fun H3 v' s3 hv' => post _ _ s3 ⟨q, hqi, hq q (List.mem_of_getElem? hqi), hv'⟩⟩
    · intro ys H2 hlen hT sm hDD
      have hall : DpAll K H2 ys (r.map Num.dat) := all_of (by rw [hlen, hxl]) fun i v hv => let ⟨q, h1, _, h3⟩ := hT i v hv; ⟨q, h1, h3⟩
      refine ⟨D, ys, rfl, .inl ⟨SqL.of hDD, fun l hl => ?_⟩⟩
      have sl : Same H2 (upd H2 l (.tup ys)) := Same.one hl
      exact k _ _ (Same.trans sm sl) (.tup (.inl (.inl upd_same)) (dpAll_same sl _ _ hall))

def spKeptPiece (K : PySem.W.Frag) : Sp := fun vs H Q _ => ∃ (v : V) (n : Nat) (p : Piece), vs = [v] ∧ Dp K H v p.dat ∧ n ≤ 2 ∧ p.Ok n ∧ ∀ H' v', Same H H' → Dp K H' v' p.dat → Q v' H'
theorem scKeptPiece : FnScope ["piece", "row"] ["piece"] (defScope sKeptPiece) := ⟨rfl, rfl, rfl, by decide +kernel, rfl, by decide +kernel, by decide +kernel⟩
theorem ok_keptPiece {f g1 : Addr} (T : Bt mg) (F : Fx K mg "kept_piece" sKeptPiece f) (G1 : Kp P w K mg base 3 "kept_row" g1 (spKeptRow K)) : Kp P w K mg base 4 "kept_piece" f (spKeptPiece K) := by
  refine kp_mk F scKeptPiece (fun vs H Q E h => ?_) (fun _ _ _ _ _ _ us hl => match us, hl with | [_], _ => rfl) (fun cdv A outer s H vs Q E hr h => ?_)
  · obtain ⟨v, n, p, rfl, _⟩ := h
    rfl
  · obtain ⟨v, n, p, rfl, hv, hn2, hp, k⟩ := h
    obtain ⟨t, x, y, z, rfl, hs, hx, hy, hz⟩ := piece_parts hv
    obtain ⟨tx, xs, rfl, hxs, hxa⟩ := dp_tup hx
    obtain ⟨ty, ys, rfl, hys, hya⟩ := dp_tup hy
    have hyl : ys.length = p.rows.length := by rw [dpAll_len hya, List.length_map]
    refine ⟨_, pss_one (ps_ret (pe_tup (pa_cons (pe_callTy call_tuple_of (by rfl) T.tuple_ PyProof.Rows.boot_tuple (pa_cons (pe_ix ix_tup (pv 0) pe_int (fun _ _ => rfl)) pa_nil))
      (pa_cons (pe_callTy call_tuple_of (by rfl) T.tuple_ PyProof.Rows.boot_tuple (pa_cons (pe_lc (own := [("row", 1)]) (g := gName 1) (tt := tYes) rfl scKeptPiece.nd (pi_tup (pe_ix ix_tup (pv 0) pe_int (fun _ _ => rfl))) (blkOk_by (own := [("row", 1)]) (N := ["piece", "row"]) (sc := defScope sKeptPiece) (by decide +kernel))
        (fun _ _ _ _ _ => pg_name (i := 1) scKeptPiece.nd rfl (Or.inl rfl)) (fun _ _ _ _ _ => pts_nil) (fun _ _ _ _ _ => pe_k G1 hr (pa_cons (pv 1) pa_nil))) pa_nil))
      (pa_cons (pe_k G1 hr (pa_cons (pe_ix ix_tup (pv 0) pe_int (fun _ _ => rfl)) pa_nil)) pa_nil))))), ?_⟩
    refine ⟨_, rfl, t, _, _, _, rfl, rfl, hs, rfl, tx, xs, rfl, .inr ⟨hxs, ?_⟩⟩
    have rnm : ∀ r ∈ p.rows, nm (rowD r) = true := fun r hr => row_nm (hp.rw r hr).2
    refine ⟨_, rfl, t, _, _, _, rfl, rfl, hs, rfl, ty, rfl, ⟨_, hys⟩, fun D hD => lc_same (walk_tup (xs := ys)) (small_lt (by rw [hyl, hp.rl]; omega)) hD (fun i v H => ∃ r, p.rows[i]? = some r ∧ Dp K H v (rowD r)) (fun i v H acc acc' hDD ⟨r, h1, h3⟩ => ⟨r, h1, dp_put (rnm r (List.mem_of_getElem? h1)) hDD h3⟩) (fun i v H H' e ⟨r, h1, h3⟩ => ⟨r, h1, dp_same e _ _ h3⟩)
      (fun acc H2 sm _ => sqT_same sm hys) (fun _ _ _ _ h => h.1) ?_ ?_⟩
    · rintro i acc x H2 Post hi sm hDD ⟨_, hx⟩ post
      obtain ⟨r, hri, hdr⟩ := rows_at (dpAll_same sm _ _ hya) hx
      have hr2 := hp.rw r (List.mem_of_getElem? hri)
      exact ⟨rfl, _, rfl, x, r, rfl, hdr, by omega, hr2.2, fun H3 v' s3 hv' => post _ _ s3 ⟨r, hri, hv'⟩⟩
    · intro zs H2 hlen hT sm hDD
      have hall : DpAll K H2 zs (p.rows.map rowD) := all_of (by rw [hlen, hyl]) fun i v hv => let ⟨q, h1, h3⟩ := hT i v hv; ⟨q, h1, h3⟩
      refine ⟨D, zs, rfl, .inl ⟨SqL.of hDD, fun l hl => ?_⟩⟩
      have sl : Same H2 (upd H2 l (.tup zs)) := Same.one hl
      have s02 : Same H (upd H2 l (.tup zs)) := Same.trans sm sl
      have hl2 : Dp K (upd H2 l (.tup zs)) (.ref l) (.tuple (p.rows.map rowD)) := .tup (.inl (.inl upd_same)) (dpAll_same sl _ _ hall)
      refine ⟨_, rfl, t, _, _, _, rfl, rfl, sqT_same s02 hs, rfl, z, p.s, rfl, dp_same s02 _ _ hz, by rw [hp.sl]; exact hn2, hp.so, fun H3 v' s3 hv' => ⟨by show 3 ≤ sizeLine; decide, fun t' ht' => ?_⟩⟩
      have s4 : Same H3 (upd H3 t' (.tup [V.ref tx, V.ref l, v'])) := Same.one ht'
      have s03 : Same H H3 := Same.trans s02 s3
      refine k _ _ (Same.trans s03 s4) (.tup (.inl (.inl upd_same)) (.cons (dp_same (Same.trans s03 s4) _ _ hx) (.cons (dp_same (Same.trans s3 s4) _ _ hl2) (.cons (dp_same s4 _ _ hv') .nil))))

def spAreUnlike (K : PySem.W.Frag) : Sp := fun vs H Q _ => ∃ (l : Addr) (xs : List V) (n : Nat) (ps : List Piece), vs = [.ref l] ∧ (SqL K H l xs ∨ SqT K H l xs) ∧ DpAll K H xs (dats ps) ∧ (∀ p ∈ ps, p.Ok n) ∧ ps.Nodup ∧ ps.length ≤ 60 ∧ Q (.bl true) H
theorem scAreUnlike : FnScope ["pieces"] ["pieces"] (defScope sAreUnlike) := ⟨rfl, rfl, rfl, by decide +kernel, rfl, by decide +kernel, by decide +kernel⟩
theorem dats_nodup {ps : List Piece} (h : ps.Nodup) : (dats ps).Nodup := List.pairwise_map.mpr (List.Pairwise.imp (fun hne e => hne (Piece.dat_inj e)) h)
theorem dats_tup {ps : List Piece} : ∀ d ∈ dats ps, ∃ es, d = PyData.tuple es := fun d hd => by
  obtain ⟨p, _, rfl⟩ := List.mem_map.mp hd
  exact ⟨_, rfl⟩
theorem ok_areUnlike {f : Addr} (T : Bt mg) (F : Fx K mg "are_unlike" sAreUnlike f) : Kp P w K mg base 1 "are_unlike" f (spAreUnlike K) := by
  refine kp_mk F scAreUnlike (fun vs H Q E h => ?_) (fun _ _ _ _ _ _ us hl => match us, hl with | [_], _ => rfl) (fun cdv A outer s H vs Q E hr h => ?_)
  · obtain ⟨l, xs, n, ps, rfl, _⟩ := h
    rfl
  · obtain ⟨l, xs, n, ps, rfl, hs, ha, hp, nd, hlen, k⟩ := h
    have hxl : xs.length = ps.length := by rw [dpAll_len ha, List.length_map]
    refine ⟨_, pss_one (ps_ret (pe_cmpR op_eq (pe_lenSetN rfl hr.units (by rfl) T.len_ (by rfl) T.set_ (pv 0)) (pe_callB call_len_seq (by rfl) T.len_ PySem.boot_len (pa_cons (pv 0) pa_nil)) (nomark _))), ?_⟩
    refine ⟨_, rfl, l, xs, dats ps, rfl, hs, ha, dats_nm hp, Nat.le_trans (dats_depth ps) (by decide), dats_tup, dats_nodup nd, by rw [List.length_map]; omega, _, rfl, l, xs, rfl, hs, rfl, ?_⟩
    rw [decide_eq_true (show V.int ((dats ps).length : Nat) = V.int (xs.length : Nat) by rw [List.length_map, hxl])]
    exact k
end
end K6

set_option maxRecDepth 100000
set_option maxHeartbeats 4000000
/-! KD5a: items_in, piece_in. -/
namespace K6
open PySem PySem.Spec PyProof.Rows L2
open TL (tl)

theorem map_of {α : Type} {f : α → V} : ∀ {l : List α} {ys : List V}, ys.length = l.length → (∀ (i : Nat) v, ys[i]? = some v → ∃ q, l[i]? = some q ∧ v = f q) → ys = l.map f
  | [], [], _, _ => rfl
  | [], _ :: _, h, _ => by simp at h
  | _ :: _, [], h, _ => by simp at h
  | q :: l, v :: ys, hl, h => by
    obtain ⟨d', e, h1⟩ := h 0 v rfl
    cases e
    rw [h1, List.map_cons, map_of (l := l) (ys := ys) (by simpa using hl) fun i u hu => ?_]
    obtain ⟨e, q1, q2⟩ := h (i + 1) u (by simpa using hu)
    exact ⟨e, by simpa using q1, q2⟩
theorem take_next {α : Type} {l : List α} {i : Nat} {x : α} (h : l[i]? = some x) : l.take (i + 1) = l.take i ++ [x] := by
  obtain ⟨hi, e⟩ := List.getElem?_eq_some_iff.mp h
  rw [List.take_add_one, h]
  rfl
theorem take_all {α : Type} {l : List α} {n : Nat} (h : l.length ≤ n) : l.take n = l := List.take_of_length_le h
section
variable {P : Program} {w : World} {K : PySem.W.Frag} {mg : Str → Option Value} {base : Heap}
def spItemsIn (K : PySem.W.Frag) : Sp := fun vs H Q _ => ∃ (v : V) (n : Nat) (p : Piece), vs = [v] ∧ Dp K H v p.dat ∧ n ≤ 2 ∧ p.Ok n ∧ ∀ H' l, H l = none → Same H H' → H' l = some (.lst (p.items.map V.str)) → Q (.ref l) H'
abbrev NItems : List Str := ["piece", "corner", "rows", "shift", "numbers", "row", "number", "each"]
theorem scItemsIn : FnScope NItems ["piece"] (defScope sItemsIn) := ⟨rfl, rfl, rfl, by decide +kernel, rfl, by decide +kernel, by decide +kernel⟩
/-- all the rows of a piece, the shift last -/
def Piece.all (p : Piece) : List (List Num) := p.rows ++ [p.s]
theorem Piece.all_flat (p : Piece) : p.all.flatten = p.nums := by
  unfold Piece.all Piece.nums
  rw [List.flatten_append]
  simp
theorem all_ok {n : Nat} {p : Piece} (hp : p.Ok n) : ∀ r ∈ p.all, r.length = n ∧ ∀ q ∈ r, q.Ok := fun r hr => by
  rcases List.mem_append.mp hr with h | h
  · exact hp.rw r h
  · obtain rfl : r = p.s := by simpa using h
    exact ⟨hp.sl, hp.so⟩
theorem nums_ok {n : Nat} {p : Piece} (hp : p.Ok n) : ∀ q ∈ p.nums, q.Ok := fun q hq => by
  rw [← p.all_flat] at hq
  obtain ⟨r, hr, hqr⟩ := List.mem_flatten.mp hq
  exact (all_ok hp r hr).2 q hqr
theorem nmAll_nums {qs : List Num} (h : ∀ q ∈ qs, q.Ok) : nmAll (qs.map Num.dat) = true := by
  rw [nmAll_iff]
  intro d hd
  obtain ⟨q, hq, rfl⟩ := List.mem_map.mp hd
  exact (h q hq).nm
theorem nums_le {n : Nat} {p : Piece} (hp : p.Ok n) (hn : n ≤ 2) : p.nums.length ≤ 6 := by
  rw [nums_len hp]
  have : n = 0 ∨ n = 1 ∨ n = 2 := by omega
  rcases this with rfl | rfl | rfl <;> decide
theorem take_flat_le {n i : Nat} {p : Piece} (hp : p.Ok n) (hn : n ≤ 2) : (p.all.take i).flatten.length ≤ 6 := by
  have h1 : (p.all.take i).flatten.length ≤ p.all.flatten.length := by
    have e : p.all.flatten = (p.all.take i).flatten ++ (p.all.drop i).flatten := by rw [← List.flatten_append, List.take_append_drop]
    rw [e, List.length_append]
    omega
  rw [p.all_flat, nums_len hp] at h1
  have : n = 0 ∨ n = 1 ∨ n = 2 := by omega
  rcases this with rfl | rfl | rfl <;> omega
theorem take_flat_ok {n i : Nat} {p : Piece} (hp : p.Ok n) : ∀ q ∈ (p.all.take i).flatten, q.Ok := fun q hq => by
  obtain ⟨r, hr, hqr⟩ := List.mem_flatten.mp hq
  exact (all_ok hp r (List.mem_of_mem_take hr)).2 q hqr

theorem ok_itemsIn {f g1 : Addr} (T : Bt mg) (N : Cn mg) (F : Fx K mg "items_in" sItemsIn f) (G1 : Kp P w K mg base 2 "text_in" g1 (spTextIn K)) : Kp P w K mg base 3 "items_in" f (spItemsIn K) := by
  refine kp_mk F scItemsIn (fun vs H Q E h => ?_) (fun _ _ _ _ _ _ us hl => match us, hl with | [_], _ => rfl) (fun cdv A outer s H vs Q E hr h => ?_)
  · obtain ⟨v, n, p, rfl, _⟩ := h
    rfl
  · obtain ⟨v, n, p, rfl, hv, hn2, hp, k⟩ := h
    obtain ⟨t, x, y, z, rfl, hs, hx, hy, hz⟩ := piece_parts hv
    obtain ⟨tx, xs, rfl, hxs, hxa⟩ := dp_tup hx
    have ex : xs = p.c.map V.int := dpAll_ints_of hxa
    subst ex
    obtain ⟨ty, ys, rfl, hys, hya⟩ := dp_tup hy
    have hyl : ys.length = p.rows.length := by rw [dpAll_len hya, List.length_map]
    refine ⟨_, pss_cons (ps_asg (pv 0) (pg_tup (by rfl) (pgs_cons (pg_name (i := 1) scItemsIn.nd rfl (Or.inl rfl)) (pgs_cons (pg_name (i := 2) scItemsIn.nd rfl (Or.inl rfl)) (pgs_cons (pg_name (i := 3) scItemsIn.nd rfl (Or.inl rfl)) pgs_nil)))))
      (pss_cons (ps_setLc2 (i := 4) (own := [("row", 5), ("number", 6)]) (vs1 := [6]) (wi1 := iTup K (tVar 5)) (g := gName 5) (g1 := gName 6) (tt := tYes) (tt1 := tYes) rfl scItemsIn.nd rfl rfl rfl (pi_tup (pe_tup (StX.pa_star (pv 2) (pa_cons (pv 3) pa_nil))))
        (blkOk_by (own := [("row", 5), ("number", 6)]) (N := NItems) (sc := defScope sItemsIn) (by decide +kernel)) (by decide) (fun _ _ _ _ _ => pg_name (i := 5) scItemsIn.nd rfl (Or.inl rfl)) (fun _ _ _ _ _ => pts_nil) (fun _ _ _ _ _ => pi_tup (pv 5))
        (fun _ _ _ _ _ => pg_name (i := 6) scItemsIn.nd rfl (Or.inl rfl)) (fun _ _ _ _ _ => pts_nil) (fun _ _ _ _ _ => pv 6))
      (pss_one (ps_ret (pe_lst (pa_cons (pe_cs N.bar)
        (StX.pa_star (pe_lc (own := [("each", 7)]) (g := gName 7) (tt := tYes) rfl scItemsIn.nd (pi_tup (pv 1)) (blkOk_by (own := [("each", 7)]) (N := NItems) (sc := defScope sItemsIn) (by decide +kernel)) (fun _ _ _ _ _ => pg_name (i := 7) scItemsIn.nd rfl (Or.inl rfl)) (fun _ _ _ _ _ => pts_nil)
          (fun _ _ _ _ _ => pe_callTy call_str_int (by rfl) T.str_ PyProof.Rows.boot_str (pa_cons (pv 7) pa_nil)))
        (StX.pa_star (pe_lc (own := [("each", 7)]) (g := gName 7) (tt := tYes) rfl scItemsIn.nd (pi_list (pv 4)) (blkOk_by (own := [("each", 7)]) (N := NItems) (sc := defScope sItemsIn) (by decide +kernel)) (fun _ _ _ _ _ => pg_name (i := 7) scItemsIn.nd rfl (Or.inl rfl)) (fun _ _ _ _ _ => pts_nil)
          (fun _ _ _ _ _ => pe_k G1 hr (pa_cons (pv 7) pa_nil))) pa_nil))))))), ?_⟩
    refine ⟨_, rfl, t, _, rfl, hs, rfl, _, _, rfl, _, _, rfl, _, _, rfl, rfl, ?_⟩
    refine ⟨_, rfl, ty, ys, rfl, .inl hys, _, rfl, ?_, fun q hq => ?_⟩
    · show (ys ++ [z]).length ≤ sizeLine
      rw [List.length_append, hyl, hp.rl]
      show n + 1 ≤ sizeLine
      exact Nat.le_trans (show n + 1 ≤ 3 by omega) (by decide)
    have s1 : Same H (upd H q (.tup (ys ++ [z]))) := Same.one hq
    have hall : DpAll K (upd H q (.tup (ys ++ [z]))) (ys ++ [z]) (p.all.map rowD) := by
      unfold Piece.all
      rw [List.map_append]
      exact dpAll_app (dpAll_same s1 _ _ hya) (dpAll_one (dp_same s1 _ _ hz))
    have hal : (ys ++ [z]).length = p.all.length := by rw [dpAll_len hall, List.length_map]
    have hall' := hall
    have hsq : SqT K (upd H q (.tup (ys ++ [z]))) q (ys ++ [z]) := .inl (.inl upd_same)
    generalize upd H q (.tup (ys ++ [z])) = H1 at s1 hall hsq ⊢
    refine ⟨q, rfl, ⟨_, hsq⟩, fun D hD => outer_it (walk_tup (xs := ys ++ [z])) (fun i H2 => Same H1 H2 ∧ ∃ acc, H2 D = some (.lst acc) ∧ DpAll K H2 acc ((p.all.take i).flatten.map Num.dat)) ⟨Same.one hD, [], upd_same, .nil⟩
      (fun i H2 _ h => sqT_same h.1 hsq) ?_ ?_⟩
    · rintro i x H2 H2' hi ⟨sm, acc, hDD, hacc⟩ ⟨e, hx⟩
      subst e
      obtain ⟨r, hri, hdr⟩ := rows_at hall hx
      have hrm : r ∈ p.all := List.mem_of_getElem? hri
      obtain ⟨hrl, hro⟩ := all_ok hp r hrm
      obtain ⟨tr, us, rfl, hus, hua⟩ := dp_tup hdr
      have hul : us.length = r.length := by rw [dpAll_len hua, List.length_map]
      have okAll : ∀ j, ∀ q ∈ (p.all.take i).flatten ++ r.take j, q.Ok := fun j q hq => by
        rcases List.mem_append.mp hq with h | h
        · exact take_flat_ok hp q h
        · exact hro q (List.mem_of_mem_take h)
      refine ⟨rfl, _, rfl, tr, rfl, ⟨_, sqT_same sm hus⟩, inner_it (walk_tup (xs := us)) (fun j acc H3 => Same H1 H3 ∧ DpAll K H3 acc (((p.all.take i).flatten ++ r.take j).map Num.dat)) ⟨acc, hDD, sm, by rw [List.take_zero, List.append_nil]; exact hacc⟩
        (fun j acc H3 _ h _ => sqT_same h.1 hus) (fun j acc H3 _ h => ?_) ?_ ?_⟩
      · have e := dpAll_len h.2
        rw [List.length_map, List.length_append, List.length_take] at e
        have := take_flat_le (i := i) hp hn2
        exact small_lt (by omega)
      · rintro j acc y H3 H3' Post hj ⟨sm3, hacc3⟩ hDD3 ⟨e, hy3⟩ post
        subst e
        obtain ⟨qn, hqi, hdq⟩ := row_at hua hy3
        have hqo : qn.Ok := hro qn (List.mem_of_getElem? hqi)
        have hdq' := dp_same sm3 _ _ hdq
        refine ⟨rfl, _, rfl, post _ _ hDD3 ⟨same_put hD sm3, ?_⟩⟩
        rw [take_next hqi, ← List.append_assoc, List.map_append]
        exact dpAll_app (dpAll_put (nmAll_nums (okAll j)) hDD3 hacc3) (dpAll_one (dp_put hqo.nm hDD3 hdq'))
      · rintro acc H3 ⟨sm3, hacc3⟩ hDD3
        refine ⟨sm3, acc, hDD3, ?_⟩
        rw [take_next hri, List.flatten_append]
        rw [take_all (l := r) (by omega)] at hacc3
        have e0 : ([r] : List (List Num)).flatten = r := by simp
        rw [e0]
        exact hacc3
    · rintro H2 ⟨sm, acc, hDD, hacc⟩
      rw [take_all (l := p.all) (by omega), p.all_flat] at hacc
      have s12 : Same H H2 := s1.trans sm
      -- the list
      refine ⟨_, rfl, tx, rfl, ⟨_, sqT_same s12 hxs⟩, fun D2 hD2 => lc_same (walk_tup (xs := p.c.map V.int)) (small_lt (by rw [List.length_map, hp.cl]; omega)) hD2 (fun i v H => ∃ q, p.c[i]? = some q ∧ v = V.str (istr q)) (fun _ _ _ _ _ _ h => h) (fun _ _ _ _ _ h => h) (fun acc H3 sm3 _ => sqT_same (s12.trans sm3) hxs) (fun _ _ _ _ h => h.1) ?_ ?_⟩
      · rintro i acc x H3 Post hi sm3 hDD3 ⟨_, hx3⟩ post
        rw [List.getElem?_map] at hx3
        obtain ⟨m, hm, rfl⟩ := Option.map_eq_some_iff.mp hx3
        have hb := hp.cb m (List.mem_of_getElem? hm)
        exact ⟨rfl, _, rfl, m, rfl, small_log (by omega), post _ _ (Same.refl _) ⟨m, hm, rfl⟩⟩
      · intro ys2 H3 hlen hT sm3 hDD3
        rw [List.length_map] at hlen
        have e1 : ys2 = p.c.map (fun q => V.str (istr q)) := map_of hlen hT
        refine ⟨D2, ys2, rfl, .inr (SqL.of hDD3), ?_⟩
        have s13 : Same H H3 := s12.trans sm3
        have hnl : acc.length = p.nums.length := by rw [dpAll_len hacc, List.length_map]
        refine ⟨_, rfl, D, rfl, ⟨_, SqL.of (sm3 _ _ hDD)⟩, fun D3 hD3 => lc_same (walk_list (xs := acc)) (small_lt (by have := nums_le hp hn2; omega)) hD3 (fun i v H => ∃ q, p.nums[i]? = some q ∧ v = V.str q.txt) (fun _ _ _ _ _ _ h => h) (fun _ _ _ _ _ h => h) (fun acc4 H4 sm4 _ => SqL.of (sm4 _ _ (sm3 _ _ hDD))) (fun _ _ _ _ h => h.1) ?_ ?_⟩
        · rintro i acc4 x H4 Post hi sm4 hDD4 ⟨_, hx4⟩ post
          obtain ⟨qn, hqi, hdq⟩ := row_at (dpAll_same (Same.trans sm3 sm4) _ _ hacc) hx4
          exact ⟨rfl, _, rfl, x, qn, rfl, hdq, nums_ok hp qn (List.mem_of_getElem? hqi), post _ _ (Same.refl _) ⟨qn, hqi, rfl⟩⟩
        · intro ys4 H4 hlen4 hT4 sm4 hDD4
          have e2 : ys4 = p.nums.map (fun q => V.str q.txt) := map_of (by rw [hlen4, hnl]) hT4
          refine ⟨D3, ys4, rfl, .inr (SqL.of hDD4), ?_, fun l hl => ?_⟩
          · show (V.str slash :: (ys2 ++ (ys4 ++ []))).length ≤ sizeLine
            rw [List.append_nil, List.length_cons, List.length_append, e1, e2, List.length_map, List.length_map, hp.cl, nums_len hp]
            have : n = 0 ∨ n = 1 ∨ n = 2 := by omega
            rcases this with rfl | rfl | rfl <;> decide
          · have s14 : Same H H4 := s13.trans sm4
            have hl0 : H l = none := by
              cases q : H l with
              | none => rfl
              | some o =>
                rw [s14 _ _ q] at hl
                cases hl
            refine k _ l hl0 (Same.new s14 hl) ?_
            rw [upd_same]
            congr 2
            show V.str slash :: (ys2 ++ (ys4 ++ [])) = _
            rw [List.append_nil, e1, e2]
            unfold Piece.items
            rw [List.map_cons, List.map_append, List.map_map, List.map_map]
            rfl
end
end K6

set_option maxRecDepth 100000
set_option maxHeartbeats 4000000
/-! KD5b: piece_in. -/
namespace K6
open PySem PySem.Spec PyProof.Rows L2
open TL (tl)

theorem flat_get {α : Type} {n j : Nat} {q : α} : ∀ {rows : List (List α)} {i : Nat} {r : List α}, (∀ r ∈ rows, r.length = n) → rows[i]? = some r → r[j]? = some q → rows.flatten[i * n + j]? = some q
  | [], i, r, _, h, _ => by simp at h
  | r0 :: rows, 0, r, _, h, e => by
    obtain rfl : r0 = r := by simpa using h
    obtain ⟨hj, _⟩ := List.getElem?_eq_some_iff.mp e
    rw [List.flatten_cons, Nat.zero_mul, Nat.zero_add, List.getElem?_append_left hj]
    exact e
  | r0 :: rows, i + 1, r, hl, h, e => by
    have h0 := hl r0 List.mem_cons_self
    have z := flat_get (rows := rows) (i := i) (r := r) (fun t ht => hl t (List.mem_cons_of_mem _ ht)) (by simpa using h) e
    have e2 : (i + 1) * n + j = r0.length + (i * n + j) := by rw [Nat.succ_mul, h0]; omega
    rw [List.flatten_cons, e2, List.getElem?_append_right (by omega), Nat.add_sub_cancel_left]
    exact z
theorem item_c {i : Nat} {p : Piece} {c : Int} (h : p.c[i]? = some c) : p.items[1 + i]? = some (istr c) := by
  obtain ⟨hi, _⟩ := List.getElem?_eq_some_iff.mp h
  unfold Piece.items
  rw [Nat.add_comm, List.getElem?_cons_succ, List.getElem?_append_left (by rw [List.length_map]; exact hi), List.getElem?_map, h]
  rfl
theorem item_num {n i j : Nat} {p : Piece} {r : List Num} {q : Num} (hp : p.Ok n) (h : p.all[i]? = some r) (hq : r[j]? = some q) : p.items[1 + n + (i * n + j)]? = some q.txt := by
  have z : p.nums[i * n + j]? = some q := by
    rw [← p.all_flat]
    exact flat_get (fun r hr => (all_ok hp r hr).1) h hq
  have e : 1 + n + (i * n + j) = (n + (i * n + j)) + 1 := by omega
  unfold Piece.items
  rw [e, List.getElem?_cons_succ, List.getElem?_append_right (by rw [List.length_map, hp.cl]; omega), List.length_map, hp.cl, Nat.add_sub_cancel_left, List.getElem?_map, z]
  rfl
theorem ScanAt.put {C p l D : Addr} {H : Hp} {ws : List Str} {k : Nat} {o : HO} (s : ScanAt C H p l ws k) (h1 : p ≠ D) (h2 : l ≠ D) : ScanAt C (upd H D o) p l ws k :=
  ⟨let ⟨dx, h⟩ := s.ob; ⟨dx, by rw [upd_ne h1]; exact h⟩, by rw [upd_ne h2]; exact s.ws⟩
theorem ScanAt.freeP {C p l D : Addr} {H : Hp} {ws : List Str} {k : Nat} (s : ScanAt C H p l ws k) (h : H D = none) : p ≠ D := by
  obtain ⟨dx, hp⟩ := s.ob
  exact ne_of_none hp h
theorem ScanAt.freeL {C p l D : Addr} {H : Hp} {ws : List Str} {k : Nat} (s : ScanAt C H p l ws k) (h : H D = none) : l ≠ D := ne_of_none s.ws h
def lcScope : Expr → Scope
  | .ListComp _ _ s _ => s
  | _ => defScope sPieceIn
/-- the block of the rows' comprehension -/
def scRows0 : Scope := match defBody sPieceIn with
  | [_, _, .Assign _ (.Call _ (e :: _) _ _) _, _] => lcScope e
  | _ => defScope sPieceIn
/-- what is free in it is a cell of the def's -/
def scRows : Scope := { scRows0 with names := scRows0.names.map fun p => if p.2 == .free then (p.1, .cell) else p }
def rTupOf (K : PySem.W.Frag) : List V → Hp → VK → Prop := fun xs H Q => ∃ p ys, xs = [.ref p] ∧ ((SqL K H p ys ∧ ∀ l, H l = none → Q (.ref l) (upd H l (.tup ys))) ∨ (SqT K H p ys ∧ Q (.ref p) H))
theorem dne {C p l D : Addr} {H1 : Hp} {ws : List Str} {k : Nat} (s : ScanAt C H1 p l ws k) (h : H1 D = none) : D ≠ p := fun e => s.freeP h e.symm
section
variable {P : Program} {w : World} {K : PySem.W.Frag} {mg : Str → Option Value} {base : Heap}
/-- data stays where all but the scan stays -/
theorem ScanAt.dp {C p l : Addr} {H H' : Hp} {ws : List Str} {k : Nat} {d : PyData} {v : V} (s : ScanAt C H p l ws k) (e : But p H H') (hn : nm d = true) (h : Dp K H v d) : Dp K H' v d := by
  obtain ⟨dx, hp⟩ := s.ob
  exact dp_but hp (noTup_ins _ _ _) e d v hn h
theorem ScanAt.dpAll {C p l : Addr} {H H' : Hp} {ws : List Str} {k : Nat} {d : List PyData} {v : List V} (s : ScanAt C H p l ws k) (e : But p H H') (hn : nmAll d = true) (h : DpAll K H v d) : DpAll K H' v d := by
  obtain ⟨dx, hp⟩ := s.ob
  exact dpAll_but hp (noTup_ins _ _ _) e d v hn h
def spPieceIn (K : PySem.W.Frag) (C : Addr) : Sp := fun vs H Q _ => ∃ (p l : Addr) (ws : List Str) (k n : Nat) (pc : Piece), vs = [.ref p, .int (n : Int)] ∧ ScanAt C H p l ws k ∧ n ≤ 2 ∧ pc.Ok n ∧ (∀ i x, pc.items[i]? = some x → ws[k + i]? = some x) ∧
  ∀ H' v, ScanAt C H' p l ws (k + pc.items.length) → But p H H' → Dp K H' v pc.dat → Q v H'
abbrev NPieceIn : List Str := ["scan", "wide", "corner", "rows", "_"]
theorem scPieceIn : FnScope NPieceIn ["scan", "wide"] (defScope sPieceIn) := ⟨rfl, rfl, rfl, by decide +kernel, rfl, by decide +kernel, by decide +kernel⟩
theorem rng_ok {n : Nat} (h : n ≤ 100) : -(2 ^ 62) ≤ (n : Int) ∧ (n : Int) < 2 ^ 62 := by
  have : (2 : Int) ^ 62 = 4611686018427387904 := by decide
  omega
theorem rows_nm {n : Nat} {p : Piece} (hp : p.Ok n) {rs : List (List Num)} (h : ∀ r ∈ rs, r ∈ p.all) : nmAll (rs.map rowD) = true := by
  rw [nmAll_iff]
  intro d hd
  obtain ⟨r, hr, rfl⟩ := List.mem_map.mp hd
  exact row_nm (all_ok hp r (h r hr)).2
theorem ok_pieceIn {C f fs : Addr} (T : Bt mg) (N : Cn mg) (S : ScT K C) (F : Fx K mg "piece_in" sPieceIn f) (G1 : Km P w K mg base 3 C "take_just" (spTakeJust C)) (G2 : Km P w K mg base 3 C "take_number" (spTakeNumber C)) (G3 : Km P w K mg base 5 C "take_fraction" (spTakeFraction K C fs)) (hfs : mg "is_small" = some (.ref fs)) :
    Kp P w K mg base 6 "piece_in" f (spPieceIn K C) := by
  refine kp_mk F scPieceIn (fun vs H Q E h => ?_) (fun _ _ _ _ _ _ us hl => match us, hl with | [_, _], _ => rfl) (fun cdv A outer s H vs Q E hr h => ?_)
  · obtain ⟨p, l, ws, k, n, pc, rfl, _⟩ := h
    rfl
  · obtain ⟨p, l, ws, k, n, pc, rfl, hsc, hn2, hp, hw, kk⟩ := h
    refine ⟨_, pss_cons (ps_expr (pe_km (pv 0) S.cl G1 hr (pa_cons (pe_cs N.bar) pa_nil)))
      (pss_cons (ps_set (i := 2) scPieceIn.nd rfl (Or.inl rfl) (pe_callTy call_tuple_of (by rfl) T.tuple_ PyProof.Rows.boot_tuple (pa_cons (pe_lc (own := [("_", 4)]) (g := gName 4) (tt := tYes) rfl scPieceIn.nd (pi_range1 (by rfl) T.range_ (pa_cons (pv 1) pa_nil)) (blkOk_by (own := [("_", 4)]) (N := NPieceIn) (sc := defScope sPieceIn) (by decide +kernel))
        (fun _ _ _ _ _ => pg_name (i := 4) scPieceIn.nd rfl (Or.inl rfl)) (fun _ _ _ _ _ => pts_nil) (fun _ _ _ _ _ => pe_km (pv 0) S.cl G2 hr (pa_cons (pe_un un_neg (pe_cn N.far)) (pa_cons (pe_cn N.far) pa_nil)))) pa_nil)))
      (pss_cons (ps_set (i := 3) scPieceIn.nd rfl (Or.inl rfl) (pe_callTy call_tuple_of (by rfl) T.tuple_ PyProof.Rows.boot_tuple (pa_cons (pe_lc (own := [("_", 4)]) (g := gName 4) (tt := tYes) rfl scPieceIn.nd (pi_range1 (by rfl) T.range_ (pa_cons (pv 1) pa_nil)) (blkOk_by (own := [("_", 4)]) (N := NPieceIn) (sc := defScope sPieceIn) (by decide +kernel))
        (fun _ _ _ _ _ => pg_name (i := 4) scPieceIn.nd rfl (Or.inl rfl)) (fun _ _ _ _ _ => pts_nil) (fun _ _ _ _ _ => pe_callTy (r := rTupOf K) call_tuple_of (by rfl) T.tuple_ PyProof.Rows.boot_tuple (pa_cons (pe_lc (own := [("_", 4)]) (g := gName 4) (tt := tYes) rfl scPieceIn.nd (pi_range1 (by rfl) T.range_ (pa_cons (pv 1) pa_nil)) (blkOk_by (own := [("_", 4)]) (N := NPieceIn) (sc := scRows) (by decide +kernel))
          (fun _ _ _ _ _ => pg_name (i := 4) scPieceIn.nd rfl (Or.inl rfl)) (fun _ _ _ _ _ => pts_nil) (fun _ _ _ _ _ => pe_km (pv 0) S.cl G3 hr (pa_cons (pe_glob (v := .ref fs) (by rfl) hfs rfl) pa_nil))) pa_nil))) pa_nil)))
      (pss_one (ps_ret (pe_tup (pa_cons (pv 2) (pa_cons (pv 3) (pa_cons (pe_callTy call_tuple_of (by rfl) T.tuple_ PyProof.Rows.boot_tuple (pa_cons (pe_lc (own := [("_", 4)]) (g := gName 4) (tt := tYes) rfl scPieceIn.nd (pi_range1 (by rfl) T.range_ (pa_cons (pv 1) pa_nil)) (blkOk_by (own := [("_", 4)]) (N := NPieceIn) (sc := defScope sPieceIn) (by decide +kernel))
          (fun _ _ _ _ _ => pg_name (i := 4) scPieceIn.nd rfl (Or.inl rfl)) (fun _ _ _ _ _ => pts_nil) (fun _ _ _ _ _ => pe_km (pv 0) S.cl G3 hr (pa_cons (pe_glob (v := .ref fs) (by rfl) hfs rfl) pa_nil))) pa_nil)) pa_nil)))))))), ?_⟩
    obtain ⟨dx, hpo⟩ := hsc.ob
    have noM : ∀ {j m}, ¬ m = ("at" : Str) → ¬ m = ("words" : Str) → (sf l j).lookup m = none := fun h1 h2 => sf_no l _ h1 h2
    refine ⟨_, rfl, p, dx, _, rfl, hpo, noM (by decide +kernel) (by decide +kernel), p, l, ws, k, slash, rfl, hsc, (by simpa using hw 0 slash rfl), fun H1 sc1 b1 => ?_⟩
    -- the corner
    have pn : pc.c.length = n := hp.cl
    refine ⟨_, rfl, (n : Int), rfl, (rng_ok (by omega)).1, (rng_ok (by omega)).2, fun D hD => lc_map (walk_range (n := (n : Int).toNat)) (small_lt (by rw [Int.toNat_natCast]; omega)) (fun i acc H2 => ScanAt C H2 p l ws (k + 1 + i) ∧ But p H1 H2 ∧ acc = (pc.c.take i).map V.int) ⟨sc1.put (sc1.freeP hD) (sc1.freeL hD), (But.refl p H1).new hD, rfl⟩
      (fun _ _ _ _ _ _ => True.intro) ?_ ?_⟩
    · rintro i acc x H2 H2' Post hi ⟨sc2, b2, e2⟩ hDD hlen ⟨e, _⟩ post
      subst e
      rw [Int.toNat_natCast] at hi
      obtain ⟨c, hc⟩ : ∃ c, pc.c[i]? = some c := ⟨pc.c[i], List.getElem?_eq_getElem (by omega)⟩
      have hb := hp.cb c (List.mem_of_getElem? hc)
      obtain ⟨dx2, hp2⟩ := sc2.ob
      have hwi : ws[k + 1 + i]? = some (istr c) := by
        rw [Nat.add_assoc]
        exact hw _ _ (item_c hc)
      refine ⟨rfl, _, rfl, p, dx2, _, rfl, hp2, noM (by decide +kernel) (by decide +kernel), 1000, rfl, p, l, ws, k + 1 + i, -1000, 1000, c, rfl, sc2, hwi, hb.1, hb.2, by omega, fun H3 sc3 b3 => post _ _ (b3 _ _ hDD (dne sc1 hD)) ⟨sc3.put (sc1.freeP hD) (sc1.freeL hD), but_put hD (b2.trans b3), ?_⟩⟩
      rw [take_next hc, List.map_append, e2]
      rfl
    · rintro acc H2 ⟨sc2, b2, e2⟩ hDD hlen
      rw [Int.toNat_natCast] at sc2 hlen e2
      rw [take_all (l := pc.c) (by omega)] at e2
      refine ⟨D, acc, rfl, .inl ⟨SqL.of hDD, fun lc hlc => ?_⟩⟩
      have scc := sc2.put (o := .tup acc) (sc2.freeP hlc) (sc2.freeL hlc)
      have bc : But p H1 (upd H2 lc (.tup acc)) := b2.new hlc
      have dc : Dp K (upd H2 lc (.tup acc)) (.ref lc) (cornerD pc.c) := .tup (.inl (.inl upd_same)) (by rw [e2]; exact dpAll_ints _)
      generalize upd H2 lc (.tup acc) = H3 at scc bc dc ⊢
      -- the rows
      refine ⟨_, rfl, (n : Int), rfl, (rng_ok (by omega)).1, (rng_ok (by omega)).2, fun D2 hD2 => lc_map (walk_range (n := (n : Int).toNat)) (small_lt (by rw [Int.toNat_natCast]; omega)) (fun i acc H4 => ScanAt C H4 p l ws (k + 1 + n + i * n) ∧ But p H3 H4 ∧ DpAll K H4 acc ((pc.rows.take i).map rowD))
        ⟨by rw [Nat.zero_mul]; exact scc.put (scc.freeP hD2) (scc.freeL hD2), (But.refl p H3).new hD2, .nil⟩ (fun _ _ _ _ _ _ => True.intro) ?_ ?_⟩
      · rintro i acc2 x H4 H4' Post hi ⟨sc4, b4, a4⟩ hDD4 hlen4 ⟨e, _⟩ post
        subst e
        rw [Int.toNat_natCast] at hi
        obtain ⟨r, hri⟩ : ∃ r, pc.rows[i]? = some r := ⟨pc.rows[i]'(by rw [hp.rl]; omega), List.getElem?_eq_getElem (by rw [hp.rl]; omega)⟩
        have hall : pc.all[i]? = some r := by
          unfold Piece.all
          rw [List.getElem?_append_left (by rw [hp.rl]; omega)]
          exact hri
        obtain ⟨hrl, hro⟩ := all_ok hp r (List.mem_of_getElem? hall)
        refine ⟨rfl, _, rfl, (n : Int), rfl, (rng_ok (by omega)).1, (rng_ok (by omega)).2, fun D3 hD3 => lc_map (walk_range (n := (n : Int).toNat)) (small_lt (by rw [Int.toNat_natCast]; omega)) (fun j acc H5 => ScanAt C H5 p l ws (k + 1 + n + i * n + j) ∧ But p H4' H5 ∧ DpAll K H5 acc ((r.take j).map Num.dat))
          ⟨sc4.put (sc4.freeP hD3) (sc4.freeL hD3), (But.refl p H4').new hD3, .nil⟩ (fun _ _ _ _ _ _ => True.intro) ?_ ?_⟩
        · rintro j acc3 x5 H5 H5' Post5 hj ⟨sc5, b5, a5⟩ hDD5 hlen5 ⟨e, _⟩ post5
          subst e
          rw [Int.toNat_natCast] at hj
          obtain ⟨q, hqj⟩ : ∃ q, r[j]? = some q := ⟨r[j]'(by rw [hrl]; omega), List.getElem?_eq_getElem (by rw [hrl]; omega)⟩
          have hqo := hro q (List.mem_of_getElem? hqj)
          obtain ⟨dx5, hp5⟩ := sc5.ob
          have hwj : ws[k + 1 + n + i * n + j]? = some q.txt := by
            have e : k + 1 + n + i * n + j = k + (1 + n + (i * n + j)) := by omega
            rw [e]
            exact hw _ _ (item_num hp hall hqj)
          refine ⟨rfl, _, rfl, p, dx5, _, rfl, hp5, noM (by decide +kernel) (by decide +kernel), p, l, ws, _, q, rfl, sc5, hwj, hqo, fun H6 v sc6 b6 hv => post5 _ _ (b6 _ _ hDD5 (dne sc4 hD3)) ⟨sc6.put (sc4.freeP hD3) (sc4.freeL hD3), but_put hD3 (b5.trans b6), ?_⟩⟩
          have nmr : nmAll ((r.take j).map Num.dat) = true := nmAll_nums fun q hq => hro q (List.mem_of_mem_take hq)
          have hDD6 := b6 _ _ hDD5 (dne sc4 hD3)
          rw [take_next hqj, List.map_append]
          exact dpAll_app (dpAll_put nmr hDD6 (sc5.dpAll b6 nmr a5)) (dpAll_one (dp_put hqo.nm hDD6 hv))
        · rintro acc3 H5 ⟨sc5, b5, a5⟩ hDD5 hlen5
          rw [Int.toNat_natCast] at sc5 a5
          rw [take_all (l := r) (by omega)] at a5
          refine ⟨D3, acc3, rfl, .inl ⟨SqL.of hDD5, fun lq hlq => ?_⟩⟩
          have s6 : Same H5 (upd H5 lq (.tup acc3)) := Same.one hlq
          have b6 : But p H4' (upd H5 lq (.tup acc3)) := b5.new hlq
          have sc6 := sc5.put (o := .tup acc3) (sc5.freeP hlq) (sc5.freeL hlq)
          have hDD6 := b6 _ _ hDD4 (dne scc hD2)
          have d6 : Dp K (upd H5 lq (.tup acc3)) (.ref lq) (rowD r) := .tup (.inl (.inl upd_same)) (dpAll_same s6 _ _ a5)
          have nmr : nmAll ((pc.rows.take i).map rowD) = true := rows_nm hp fun r hr => List.mem_append_left _ (List.mem_of_mem_take hr)
          refine post _ _ hDD6 ⟨?_, but_put hD2 (b4.trans b6), ?_⟩
          · have e : k + 1 + n + (i + 1) * n = k + 1 + n + i * n + n := by rw [Nat.succ_mul]; omega
            rw [e]
            exact sc6.put (scc.freeP hD2) (scc.freeL hD2)
          · rw [take_next hri, List.map_append]
            exact dpAll_app (dpAll_put nmr hDD6 (sc4.dpAll b6 nmr a4)) (dpAll_one (dp_put (row_nm hro) hDD6 d6))
      · rintro acc2 H4 ⟨sc4, b4, a4⟩ hDD4 hlen4
        rw [Int.toNat_natCast] at sc4 a4
        rw [take_all (l := pc.rows) (by rw [hp.rl]; omega)] at a4
        refine ⟨D2, acc2, rfl, .inl ⟨SqL.of hDD4, fun lr hlr => ?_⟩⟩
        have sr : Same H4 (upd H4 lr (.tup acc2)) := Same.one hlr
        have br : But p H3 (upd H4 lr (.tup acc2)) := b4.new hlr
        have scr := sc4.put (o := .tup acc2) (sc4.freeP hlr) (sc4.freeL hlr)
        have dr : Dp K (upd H4 lr (.tup acc2)) (.ref lr) (.tuple (pc.rows.map rowD)) := .tup (.inl (.inl upd_same)) (dpAll_same sr _ _ a4)
        have nmc : nm (cornerD pc.c) = true := by
          have := hp.nm
          simp only [Piece.dat, nm, nmAll, Bool.and_eq_true] at this
          simp only [cornerD, nm]
          exact this.1
        have nmrs : nm (.tuple (pc.rows.map rowD)) = true := by
          simp only [nm]
          exact rows_nm hp fun r hr => List.mem_append_left _ hr
        have dc' := scc.dp br nmc dc
        generalize upd H4 lr (.tup acc2) = H5 at br scr dr dc' ⊢
        -- the shift
        have hall : pc.all[n]? = some pc.s := by
          unfold Piece.all
          rw [List.getElem?_append_right (by rw [hp.rl]; omega), hp.rl, Nat.sub_self]
          rfl
        refine ⟨_, rfl, _, rfl, _, rfl, (n : Int), rfl, (rng_ok (by omega)).1, (rng_ok (by omega)).2, fun D3 hD3 => lc_map (walk_range (n := (n : Int).toNat)) (small_lt (by rw [Int.toNat_natCast]; omega)) (fun j acc H6 => ScanAt C H6 p l ws (k + 1 + n + n * n + j) ∧ But p H5 H6 ∧ DpAll K H6 acc ((pc.s.take j).map Num.dat))
          ⟨scr.put (scr.freeP hD3) (scr.freeL hD3), (But.refl p H5).new hD3, .nil⟩ (fun _ _ _ _ _ _ => True.intro) ?_ ?_⟩
        · rintro j acc3 x5 H6 H6' Post5 hj ⟨sc6, b6, a6⟩ hDD6 hlen6 ⟨e, _⟩ post5
          subst e
          rw [Int.toNat_natCast] at hj
          obtain ⟨q, hqj⟩ : ∃ q, pc.s[j]? = some q := ⟨pc.s[j]'(by rw [hp.sl]; omega), List.getElem?_eq_getElem (by rw [hp.sl]; omega)⟩
          have hqo := hp.so q (List.mem_of_getElem? hqj)
          obtain ⟨dx6, hp6⟩ := sc6.ob
          have hwj : ws[k + 1 + n + n * n + j]? = some q.txt := by
            have e : k + 1 + n + n * n + j = k + (1 + n + (n * n + j)) := by omega
            rw [e]
            exact hw _ _ (item_num hp hall hqj)
          refine ⟨rfl, _, rfl, p, dx6, _, rfl, hp6, noM (by decide +kernel) (by decide +kernel), p, l, ws, _, q, rfl, sc6, hwj, hqo, fun H7 v sc7 b7 hv => post5 _ _ (b7 _ _ hDD6 (dne scr hD3)) ⟨sc7.put (scr.freeP hD3) (scr.freeL hD3), but_put hD3 (b6.trans b7), ?_⟩⟩
          have nmr : nmAll ((pc.s.take j).map Num.dat) = true := nmAll_nums fun q hq => hp.so q (List.mem_of_mem_take hq)
          have hDD7 := b7 _ _ hDD6 (dne scr hD3)
          rw [take_next hqj, List.map_append]
          exact dpAll_app (dpAll_put nmr hDD7 (sc6.dpAll b7 nmr a6)) (dpAll_one (dp_put hqo.nm hDD7 hv))
        · rintro acc3 H6 ⟨sc6, b6, a6⟩ hDD6 hlen6
          rw [Int.toNat_natCast] at sc6 a6
          rw [take_all (l := pc.s) (by rw [hp.sl]; omega)] at a6
          refine ⟨D3, acc3, rfl, .inl ⟨SqL.of hDD6, fun ls hls => ⟨by show 3 ≤ sizeLine; decide, fun t ht => ?_⟩⟩⟩
          have s7 : Same H6 (upd H6 ls (.tup acc3)) := Same.one hls
          have s8 : Same (upd H6 ls (.tup acc3)) (upd (upd H6 ls (.tup acc3)) t (.tup [V.ref lc, V.ref lr, V.ref ls])) := Same.one ht
          have s78 := Same.trans s7 s8
          have dsh : Dp K (upd H6 ls (.tup acc3)) (.ref ls) (rowD pc.s) := .tup (.inl (.inl upd_same)) (dpAll_same s7 _ _ a6)
          refine kk _ _ ?_ (((b1.trans bc).trans br).trans (b6.trans (But.of s78))) (.tup (.inl (.inl upd_same)) (.cons (dp_same s78 _ _ (scr.dp b6 nmc dc')) (.cons (dp_same s78 _ _ (scr.dp b6 nmrs dr)) (.cons (dp_same s8 _ _ dsh) .nil))))
          rw [items_len hp]
          have e : k + (1 + n + (n * n + n)) = k + 1 + n + n * n + n := by omega
          rw [e]
          exact sc6.same s78
end
end K6

set_option maxRecDepth 100000
set_option maxHeartbeats 4000000
/-! KD5c: the class Machine: __init__, __eq__, __str__. -/
namespace K6
open PySem PySem.Spec PyProof.Rows L2
open TL (tl)

theorem wp_ : ¬ (("wide" : Str) = "pieces") := by decide +kernel
def mf (w : Nat) (t : Addr) : List (Str × V) := putF "pieces" (.ref t) (putF "wide" (.int (w : Int)) [])
theorem mf_wide (w : Nat) (t : Addr) : (mf w t).lookup ("wide" : Str) = some (.int (w : Int)) := by
  unfold mf
  rw [lookup_putF, if_neg wp_, lookup_putF, if_pos rfl]
theorem mf_pieces (w : Nat) (t : Addr) : (mf w t).lookup ("pieces" : Str) = some (.ref t) := by
  unfold mf
  rw [lookup_putF, if_pos rfl]
/-- at m stands a machine -/
structure MachAt (K : PySem.W.Frag) (C : Addr) (H : Hp) (m : Addr) (w : Nat) (ps : List Piece) : Prop where
  ob : ∃ dx t xs, H m = some (.ins C dx (mf w t)) ∧ SqT K H t xs ∧ DpAll K H xs (dats ps)
theorem MachAt.same {K : PySem.W.Frag} {C : Addr} {H H' : Hp} {m : Addr} {w : Nat} {ps : List Piece} (h : MachAt K C H m w ps) (e : Same H H') : MachAt K C H' m w ps := by
  obtain ⟨dx, t, xs, h1, h2, h3⟩ := h.ob
  exact ⟨⟨dx, t, xs, e _ _ h1, sqT_same e h2, dpAll_same e _ _ h3⟩⟩
theorem MachAt.put {K : PySem.W.Frag} {C D : Addr} {H : Hp} {m : Addr} {w : Nat} {ps : List Piece} {acc acc' : List V} (h : MachAt K C H m w ps) (hw : ∃ n, ∀ p ∈ ps, p.Ok n) (hD : H D = some (.lst acc)) : MachAt K C (upd H D (.lst acc')) m w ps := by
  obtain ⟨dx, t, xs, h1, h2, h3⟩ := h.ob
  obtain ⟨n, hp⟩ := hw
  exact ⟨⟨dx, t, xs, by rw [upd_ne (ne_of h1 hD (by intro q; cases q))]; exact h1, sqT_but hD (noTup_lst _) But.put h2, dpAll_put (dats_nm hp) hD h3⟩⟩
/-- what the top says of the class -/
structure McT (K : PySem.W.Frag) (mg : Str → Option Value) (C : Addr) : Prop where
  ic : C8.InsC K C
  nW : NoAttr K C "wide"
  nP : NoAttr K C "pieces"
  at_ : mg "Machine" = some (.ref C)
section
variable {P : Program} {w : World} {K : PySem.W.Frag} {mg : Str → Option Value} {base : Heap}
/-- a def by its address, its promise and how it binds -/
structure Fo (P : Program) (w : World) (K : PySem.W.Frag) (mg : Str → Option Value) (base : Heap) (k : Nat) (f : Addr) (sp : Sp) : Prop where
  ok : ∃ fd ps, FnOk P w K mg base CX0 k f fd ps sp ∧ Binds K fd ps []
theorem fo_mk {m qual : Str} {f : Addr} {fd : FuncData} {st : Stmt} {N ps : List Str} {k : Nat} {sp : Sp} (F1 : Fun K m qual st f fd) (S : FnScope N ps (defScope st)) (len : ∀ vs H Q E, sp vs H Q E → vs.length = ps.length)
    (bind : ∀ (kV doc pm : Value) (an : Option Addr) (cdv ct : Value) (us : List Value), us.length = ps.length → bindArgs (PySem.W.fnOf m qual (defArgs st) (defBody st) (defScope st) .none kV doc pm an cdv ct) ⟨us, []⟩ = pure (ps.zip us))
    (hbody : ∀ (cdv : Value) (A : Around) (outer : List Env) (s : Shared) (H : Hp) (vs : List V) (Q : VK) (E : XK), Room k (A.deeper (envOfC qual (defScope st) s.heap.objs.size f cdv)) → sp vs H Q E →
      ∃ t, PSs (cxOf CX0 P w K mg base N qual (defScope st) f cdv A outer s H E).nox (defBody st) t ∧ t { nx := fun _ H' => Q .non H', rt := Q } (start N vs) H) : Fo P w K mg base (k + 1) f sp :=
  ⟨⟨fd, ps, F1.ok S len hbody, F1.binds bind⟩⟩
def spMachInit (K : PySem.W.Frag) (C : Addr) : Sp := fun vs H Q _ => ∃ (p dx l : Addr) (xs : List V) (n : Nat) (ps : List Piece), vs = [.ref p, .int (n : Int), .ref l] ∧ H p = some (.ins C dx []) ∧ SqL K H l xs ∧ DpAll K H xs (dats ps) ∧ 1 ≤ n ∧ n ≤ 2 ∧ (∀ q ∈ ps, q.Ok n) ∧ ps.Nodup ∧ 1 ≤ ps.length ∧ ps.length ≤ 60 ∧
  ∀ H', MachAt K C H' p n ps → But p H H' → Q .non H'
abbrev NMachInit : List Str := ["self", "wide", "pieces", "kept", "each"]
theorem scMachInit : FnScope NMachInit ["self", "wide", "pieces"] (defScope sMachineInit) := ⟨rfl, rfl, rfl, by decide +kernel, rfl, by decide +kernel, by decide +kernel⟩
theorem ok_machInit {C g1 g2 g3 g4 g5 : Addr} (T : Bt mg) (N : Cn mg) (M : McT K mg C) (F : Fi K mg C "Machine" "Machine.__init__" sMachineInit) (G1 : Kp P w K mg base 2 "is_within" g1 spIsWithin) (G2 : Kp P w K mg base 1 "is_list" g2 (spIsList K)) (G3 : Kp P w K mg base 6 "is_piece" g3 (spIsPiece K))
    (G4 : Kp P w K mg base 4 "kept_piece" g4 (spKeptPiece K)) (G5 : Kp P w K mg base 1 "are_unlike" g5 (spAreUnlike K)) : Kc P w K mg base 7 "Machine" C (spMachInit K C) := by
  refine kc_mk F scMachInit (fun vs H Q E h => ?_) (fun _ _ _ _ _ _ us hl => match us, hl with | [_, _, _], _ => rfl) (fun f cdv A outer s H vs Q E hr h => ?_)
  · obtain ⟨p, dx, l, xs, n, ps, rfl, _⟩ := h
    rfl
  · obtain ⟨p, dx, l, xs, n, ps, rfl, hpo, hl, ha, h1, h2, hok, hnd, hl1, hl2, kk⟩ := h
    have hxl : xs.length = ps.length := by rw [dpAll_len ha, List.length_map]
    refine ⟨_, pss_cons (ps_if (pt_not (pt_val (pe_k G1 hr (pa_cons (pv 1) (pa_cons pe_int (pa_cons (pe_cn N.mw) pa_nil)))))) pss_never pss_nil)
      (pss_cons (ps_if (PW.pt (pw_or (pt_not (pt_val (pe_k G2 hr (pa_cons (pv 2) pa_nil)))) (pw_or1 (pt_not (pt_chain op_le op_le pe_int (pe_callB call_len_seq (by rfl) T.len_ PySem.boot_len (pa_cons (pv 2) pa_nil)) (pe_cn N.mp)))))) pss_never pss_nil)
      (pss_cons (ps_if (pt_not (pt_val (pe_callB (cr_all rfl) (by rfl) T.all_ PyProof.Rows.boot_all (pa_cons (pe_lc (own := [("each", 4)]) (g := gName 4) (tt := tYes) rfl scMachInit.nd (pi_list (pv 2)) (blkOk_by (own := [("each", 4)]) (N := NMachInit) (sc := defScope sMachineInit) (by decide +kernel))
          (fun _ _ _ _ _ => pg_name (i := 4) scMachInit.nd rfl (Or.inl rfl)) (fun _ _ _ _ _ => pts_nil) (fun _ _ _ _ _ => pe_k G3 hr (pa_cons (pv 4) (pa_cons (pv 1) pa_nil)))) pa_nil)))) pss_never pss_nil)
      (pss_cons (ps_set (i := 3) scMachInit.nd rfl (Or.inl rfl) (pe_callTy call_tuple_of (by rfl) T.tuple_ PyProof.Rows.boot_tuple (pa_cons (pe_lc (own := [("each", 4)]) (g := gName 4) (tt := tYes) rfl scMachInit.nd (pi_list (pv 2)) (blkOk_by (own := [("each", 4)]) (N := NMachInit) (sc := defScope sMachineInit) (by decide +kernel))
          (fun _ _ _ _ _ => pg_name (i := 4) scMachInit.nd rfl (Or.inl rfl)) (fun _ _ _ _ _ => pts_nil) (fun _ _ _ _ _ => pe_k G4 hr (pa_cons (pv 4) pa_nil))) pa_nil)))
      (pss_cons (ps_if (pt_not (pt_val (pe_k G5 hr (pa_cons (pv 3) pa_nil)))) pss_never pss_nil)
      (pss_cons (ps_fld (pv 0) (pv 1) rfl) (pss_one (ps_fld (pv 0) (pv 3) rfl))))))), ?_⟩
    refine ⟨_, rfl, (n : Int), some 1, some 2, rfl, (fun x e => by cases e; omega), (fun x e => by cases e; omega), true, rfl, iteF ?_⟩
    refine ⟨_, rfl, _, _, rfl, .inr ⟨l, _, rfl, .inr hl, rfl⟩, fun H1 s1 => ⟨true, rfl, iteF ?_⟩⟩
    have hl1' := sqL_same s1 hl
    refine ⟨_, rfl, l, _, rfl, .inl hl1', _, _, rfl, rfl, true, congrArg V.bl (decide_eq_true (by omega)), iteT ⟨_, _, rfl, rfl, true, congrArg V.bl (decide_eq_true (by omega)), iteF ?_⟩⟩
    refine ⟨_, rfl, l, rfl, ⟨_, hl1'⟩, fun D hD => lc_same (walk_list (xs := xs)) (small_lt (by omega)) hD (fun i v H => v = V.bl true) (fun _ _ _ _ _ _ h => h) (fun _ _ _ _ _ h => h) (fun acc H2 sm _ => sqL_same sm hl1') (fun _ _ _ _ h => h.1) ?_ ?_⟩
    · rintro i acc x H2 Post hi sm hDD ⟨_, hx⟩ post
      obtain ⟨q, hqi, hdq⟩ := pieces_at (dpAll_same (s1.trans sm) _ _ ha) hx
      exact ⟨rfl, _, rfl, _, rfl, x, n, q, rfl, hdq, h2, hok q (List.mem_of_getElem? hqi), fun H3 s3 => post _ _ s3 rfl⟩
    intro ys H2 hlen hT sm hDD
    have s12 : Same H H2 := s1.trans sm
    refine ⟨D, List.replicate ys.length true, rfl, by rw [← all_true hT]; exact SqL.of hDD, true, by rw [rep_all], iteF ?_⟩
    have hl2' := sqL_same s12 hl
    refine ⟨_, rfl, l, rfl, ⟨_, hl2'⟩, fun D2 hD2 => lc_same (walk_list (xs := xs)) (small_lt (by omega)) hD2 (fun i v H => ∃ q, ps[i]? = some q ∧ Dp K H v q.dat) (fun i v H acc acc' hDD ⟨q, z1, z3⟩ => ⟨q, z1, dp_put (hok q (List.mem_of_getElem? z1)).nm hDD z3⟩) (fun i v H H' e ⟨q, z1, z3⟩ => ⟨q, z1, dp_same e _ _ z3⟩)
      (fun acc H3 sm3 _ => sqL_same (s12.trans sm3) hl) (fun _ _ _ _ h => h.1) ?_ ?_⟩
    · rintro i acc x H3 Post hi sm3 hDD3 ⟨_, hx⟩ post
      obtain ⟨q, hqi, hdq⟩ := pieces_at (dpAll_same (s12.trans sm3) _ _ ha) hx
      exact ⟨rfl, _, rfl, x, n, q, rfl, hdq, h2, hok q (List.mem_of_getElem? hqi), fun H4 v' s4 hv' => post _ _ s4 ⟨q, hqi, hv'⟩⟩
    intro zs H3 hlen3 hT3 sm3 hDD3
    have hall : DpAll K H3 zs (dats ps) := all_of (by rw [hlen3, hxl]) hT3
    refine ⟨D2, zs, rfl, .inl ⟨SqL.of hDD3, fun lk hlk => ?_⟩⟩
    have s4 : Same H3 (upd H3 lk (.tup zs)) := Same.one hlk
    have s04 : Same H (upd H3 lk (.tup zs)) := Same.trans (s12.trans sm3) s4
    have hlk4 : SqT K (upd H3 lk (.tup zs)) lk zs := .inl (.inl upd_same)
    have hall4 := dpAll_same s4 _ _ hall
    generalize upd H3 lk (.tup zs) = H4 at s4 s04 hlk4 hall4 ⊢
    refine ⟨_, rfl, lk, zs, n, ps, rfl, .inr hlk4, hall4, hok, hnd, hl2, true, rfl, iteF ?_⟩
    have hp4 := s04 _ _ hpo
    refine ⟨_, rfl, _, rfl, p, C, dx, [], rfl, hp4, M.ic.cl, M.nW, (by show 0 < 1000; decide), _, rfl, _, rfl, p, C, dx, _, rfl, upd_same, M.ic.cl, M.nP, (by show 1 < 1000; decide), ?_⟩
    have b1 : But p H4 (upd (upd H4 p (.ins C dx (putF "wide" (.int (n : Int)) []))) p (.ins C dx (mf n lk))) := ((But.refl p H4).upd).upd
    exact kk _ ⟨⟨dx, lk, zs, upd_same, sqT_but hp4 (noTup_ins _ _ _) b1 hlk4, dpAll_but hp4 (noTup_ins _ _ _) b1 _ _ (dats_nm hok) hall4⟩⟩ (But.trans (But.of s04) b1)

def spMachEq (K : PySem.W.Frag) (C : Addr) : Sp := fun vs H Q _ => ∃ (a b : Addr) (n m : Nat) (ps qs : List Piece), vs = [.ref a, .ref b] ∧ MachAt K C H a n ps ∧ MachAt K C H b m qs ∧ (∀ q ∈ ps, q.Ok n) ∧ (∀ q ∈ qs, q.Ok m) ∧ Q (.bl (decide (n = m) && decide (ps = qs))) H
theorem scMachEq : FnScope ["self", "other"] ["self", "other"] (defScope sMachineEq) := ⟨rfl, rfl, rfl, by decide +kernel, rfl, by decide +kernel, by decide +kernel⟩
theorem ok_machEq {C f : Addr} {fd : FuncData} (T : Bt mg) (M : McT K mg C) (F : Fun K "__eq__" "Machine.__eq__" sMachineEq f fd) : Fo P w K mg base 1 f (spMachEq K C) := by
  refine fo_mk F scMachEq (fun vs H Q E h => ?_) (fun _ _ _ _ _ _ us hl => match us, hl with | [_, _], _ => rfl) (fun cdv A outer s H vs Q E hr h => ?_)
  · obtain ⟨a, b, n, m, ps, qs, rfl, _⟩ := h
    rfl
  · obtain ⟨a, b, n, m, ps, qs, rfl, ha, hb, hps, hqs, kk⟩ := h
    obtain ⟨dxa, ta, xs, a1, a2, a3⟩ := ha.ob
    obtain ⟨dxb, tb, ys, b1, b2, b3⟩ := hb.ob
    have hu : (A.deeper (envOfC "Machine.__eq__" (defScope sMachineEq) s.heap.objs.size f cdv)).units + 64 < cLine := hr.units
    refine ⟨_, pss_cons (ps_if (pt_not (pt_val (pe_callB (C8.call_isC M.ic) (by rfl) T.isi PyProof.Rows.boot_isinstance (pa_cons (pv 1) (pa_cons (pe_glob (v := .ref C) (by rfl) M.at_ rfl) pa_nil))))) pss_never pss_nil)
      (pss_one (ps_ret (pe_callTy call_bool1 (by rfl) T.bool_ PyProof.Rows.boot_bool (pa_cons (pe_and (pe_cmpR op_eq (pe_fld (pv 0) rfl) (pe_fld (pv 1) rfl) (nomark _)) (pe_one (pe_cmpR (op_eqD hu) (pe_fld (pv 0) rfl) (pe_fld (pv 1) rfl) (nomark _)))) pa_nil)))), ?_⟩
    refine ⟨_, rfl, b, dxb, _, rfl, b1, true, rfl, iteF ?_⟩
    refine ⟨_, rfl, a, C, dxa, _, _, rfl, a1, M.ic.cl, M.nW, mf_wide _ _, _, rfl, b, C, dxb, _, _, rfl, b1, M.ic.cl, M.nW, mf_wide _ _, rfl, ?_⟩
    by_cases e : n = m
    · rw [decide_eq_true e, Bool.true_and] at kk
      refine ⟨true, congrArg V.bl (decide_eq_true (by rw [e])), iteT ⟨_, rfl, a, C, dxa, _, _, rfl, a1, M.ic.cl, M.nP, mf_pieces _ _, _, rfl, b, C, dxb, _, _, rfl, b1, M.ic.cl, M.nP, mf_pieces _ _, _, _, .tup a2 a3, .tup b2 b3, dats_shapedT hps, dats_shapedT hqs, .inr ⟨_, rfl, ?_⟩⟩⟩
      rw [dats_eqv hps hqs]
      exact kk
    · rw [decide_eq_false e, Bool.false_and] at kk
      exact ⟨false, congrArg V.bl (decide_eq_false fun z => e (by injection z with z; omega)), iteF (.inr ⟨_, rfl, kk⟩)⟩

def spMachStr (K : PySem.W.Frag) (C : Addr) : Sp := fun vs H Q _ => ∃ (a : Addr) (n : Nat) (ps : List Piece), vs = [.ref a] ∧ MachAt K C H a n ps ∧ n ≤ 2 ∧ (∀ q ∈ ps, q.Ok n) ∧ ps.length ≤ 60 ∧ ∀ H', Same H H' → Q (.str (txtOf n ps)) H'
abbrev NMachStr : List Str := ["self", "piece", "item"]
theorem scMachStr : FnScope NMachStr ["self"] (defScope sMachineStr) := ⟨rfl, rfl, rfl, by decide +kernel, rfl, by decide +kernel, by decide +kernel⟩
theorem ok_machStr {C f g : Addr} {fd : FuncData} (T : Bt mg) (M : McT K mg C) (F : Fun K "__str__" "Machine.__str__" sMachineStr f fd) (G : Kp P w K mg base 3 "items_in" g (spItemsIn K)) : Fo P w K mg base 4 f (spMachStr K C) := by
  refine fo_mk F scMachStr (fun vs H Q E h => ?_) (fun _ _ _ _ _ _ us hl => match us, hl with | [_], _ => rfl) (fun cdv A outer s H vs Q E hr h => ?_)
  · obtain ⟨a, n, ps, rfl, _⟩ := h
    rfl
  · obtain ⟨a, n, ps, rfl, ha, hn, hps, hlen, kk⟩ := h
    obtain ⟨dx, t, xs, a1, a2, a3⟩ := ha.ob
    have hxl : xs.length = ps.length := by rw [dpAll_len a3, List.length_map]
    refine ⟨_, pss_one (ps_ret (pe_join pe_str (pe_lst (pa_cons (pe_callTy call_str_int (by rfl) T.str_ PyProof.Rows.boot_str (pa_cons (pe_fld (pv 0) rfl) pa_nil)) (StX.pa_star
      (pe_lc2 (own := [("piece", 1), ("item", 2)]) (vs1 := [2]) (wi1 := iList K (tK (spItemsIn K) (tCons (tVar 1) tNil))) (g := gName 1) (g1 := gName 2) (tt := tYes) (tt1 := tYes) rfl scMachStr.nd (pi_tup (pe_fld (pv 0) rfl)) (blkOk_by (own := [("piece", 1), ("item", 2)]) (N := NMachStr) (sc := defScope sMachineStr) (by decide +kernel)) (by decide)
        (fun _ _ _ _ _ => pg_name (i := 1) scMachStr.nd rfl (Or.inl rfl)) (fun _ _ _ _ _ => pts_nil) (fun _ _ _ _ _ => pi_list (pe_k G hr (pa_cons (pv 1) pa_nil))) (fun _ _ _ _ _ => pg_name (i := 2) scMachStr.nd rfl (Or.inl rfl)) (fun _ _ _ _ _ => pts_nil) (fun _ _ _ _ _ => pv 2)) pa_nil))))), ?_⟩
    refine ⟨⟨_, rfl⟩, _, rfl, a, C, dx, _, _, rfl, a1, M.ic.cl, M.nW, mf_wide _ _, (n : Int), rfl, small_log (by omega), ?_⟩
    have size9 : ∀ i, ((ps.take i).flatMap Piece.items).length ≤ 540 := fun i => by
      have z := flatMap_le hn (ps := ps.take i) fun p hp => hps p (List.mem_of_mem_take hp)
      have z2 : (ps.take i).length ≤ ps.length := by rw [List.length_take]; omega
      omega
    have big : (1000 : Nat) < sizeLine := by decide
    refine ⟨_, rfl, a, C, dx, _, _, rfl, a1, M.ic.cl, M.nP, mf_pieces _ _, t, rfl, ⟨_, a2⟩, fun D hD => outer_it (walk_tup (xs := xs)) (fun i H2 => Same H H2 ∧ H2 D = some (.lst (((ps.take i).flatMap Piece.items).map V.str))) ⟨Same.one hD, upd_same⟩
      (fun i H2 _ h => sqT_same h.1 a2) ?_ ?_⟩
    · rintro i x H2 H2' hi ⟨sm, hDD⟩ ⟨e, hx⟩
      subst e
      obtain ⟨p, hpi, hdp⟩ := pieces_at a3 hx
      have hpok := hps p (List.mem_of_getElem? hpi)
      have hil := items_le hn hpok
      refine ⟨rfl, _, rfl, x, n, p, rfl, dp_same sm _ _ hdp, hn, hpok, fun H3 l hl s3 hl3 => ⟨l, rfl, ⟨_, SqL.of hl3⟩, ?_⟩⟩
      have nDl : l ≠ D := fun e => by
        rw [e, hDD] at hl
        cases hl
      refine inner_it (walk_list (xs := p.items.map V.str)) (fun j acc H4 => Same H H4 ∧ H4 l = some (.lst (p.items.map V.str)) ∧ acc = (((ps.take i).flatMap Piece.items) ++ p.items.take j).map V.str) ⟨_, s3 _ _ hDD, sm.trans s3, hl3, by rw [List.take_zero, List.append_nil]⟩
        (fun j acc H4 _ h _ => SqL.of h.2.1) (fun j acc H4 _ h => ?_) ?_ ?_
      · rw [h.2.2, List.length_map, List.length_append, List.length_take]
        have := size9 i
        omega
      · rintro j acc y H4 H4' Post hj ⟨sm4, hl4, ha4⟩ hDD4 ⟨e, hy⟩ post
        subst e
        rw [List.getElem?_map] at hy
        obtain ⟨z, hz, rfl⟩ := Option.map_eq_some_iff.mp hy
        refine ⟨rfl, _, rfl, post _ _ hDD4 ⟨same_put hD sm4, by rw [upd_ne nDl]; exact hl4, ?_⟩⟩
        rw [take_next hz, ← List.append_assoc, List.map_append, ha4]
        rfl
      · rintro acc H4 ⟨sm4, hl4, ha4⟩ hDD4
        refine ⟨sm4, ?_⟩
        rw [take_next hpi, List.flatMap_append, hDD4, ha4, take_all (l := p.items) (by rw [List.length_map]; exact Nat.le_refl _)]
        simp
    · rintro H2 ⟨sm, hDD⟩
      rw [take_all (l := ps) (by omega)] at hDD
      have hall := all_len hn hps hlen
      refine ⟨D, _, rfl, .inr (SqL.of hDD), ?_, fun l hl => ⟨blank, l, allItems n ps, rfl, rfl, .inl (SqL.of ?_), join_fits hn hps hlen, kk _ (Same.new sm hl)⟩⟩
      · show (V.str (istr n) :: ((ps.flatMap Piece.items).map V.str ++ [])).length ≤ sizeLine
        unfold allItems at hall
        rw [List.length_cons] at hall
        rw [List.append_nil, List.length_cons, List.length_map]
        omega
      · rw [upd_same]
        congr 2
        show V.str (istr n) :: ((ps.flatMap Piece.items).map V.str ++ []) = _
        rw [List.append_nil]
        rfl
end
end K6

set_option maxRecDepth 100000
set_option maxHeartbeats 4000000
/-! KD5d: Machine.read. -/
namespace K6
open PySem PySem.Spec PyProof.Rows L2
open TL (tl)

theorem same_of_but {H H1 H2 : Hp} {p : Addr} (e : Same H H1) (b : But p H1 H2) (h : H p = none) : Same H H2 := fun c o hc => b c o (e c o hc) (ne_of_none hc h)
theorem same_free {H H1 : Hp} {p : Addr} (e : Same H H1) (h : H1 p = none) : H p = none := by
  cases q : H p with
  | none => rfl
  | some o =>
    rw [e _ _ q] at h
    cases h
/-- a staticmethod of the class as the top leaves it -/
structure Fst (K : PySem.W.Frag) (C : Addr) (m qual : Str) (st : Stmt) : Prop where
  ex : ∃ mc g fd, Fun K m qual st g fd ∧ SMet K C mc m g
/-- its promise; it is called with one value, as text -/
structure Kst (P : Program) (w : World) (K : PySem.W.Frag) (mg : Str → Option Value) (base : Heap) (k : Nat) (x : Str) (C : Addr) (m : Str) (sp : Sp) : Prop where
  ok : ∃ mc g fd, SMet K C mc m g ∧ FnOk P w K mg base CX0 k g fd ["text"] sp ∧ Binds K fd ["text"] [] ∧ KBinds K fd ["text"] ["text"] (fun us ws => us ++ ws) (fun vs zs => vs ++ zs)
  at_ : mg x = some (.ref C)
section
variable {X : Cx} {k j : Nat} {C : Addr} {sp : Sp} {x m : Str} {p pos apos kpos : Pos} {e : Expr} {te : TE} {pl : Sem Bool}
theorem pe_ks (G : Kst X.prog X.w X.K X.mg X.base k x C m sp) (hr : Room j X.A) (ha : PE X e te) (hj : k ≤ j := by decide) (hg : Gl X x := by rfl) (hdb : (x == ("__debug__" : Str)) = false := by decide)
    (hst : starEach [e] X.env = (false, eval e X.env) :: starEach [] X.env := by rfl) (hpl : (backTo pos (starEach [] X.env)).any (·.1) = false := by rfl)
    (ht : eval (.Call (.Attribute (.Name x p) m apos) [e] [] pos) X.env = (do
      let ov ← eval (.Name x p) X.env
      standAt apos.atName
      let (f, first) ← holding [ov] (getMethod ov m pl)
      callWith pos f first (backTo pos (starEach [e] X.env)) (backToKw pos (keywordEach [] X.env))) := by rfl) :
    PE X (.Call (.Attribute (.Name x p) m apos) [e] [] pos) (fun σ H Q => te σ H fun v H1 => sp [v] H1 Q E0) := by
  obtain ⟨mc, g, fd, M, F, b, _⟩ := G.ok
  refine ⟨fun pins s σ H Q I h => (pe_smeth (pl := pl) (pe_glob (v := .ref C) hg G.at_ rfl hdb) M F (hr.mono hj) b pass0 (pa_cons ha pa_nil hst) hst hpl ht).run pins s σ H Q I ?_⟩
  exact ⟨rfl, h⟩
theorem pe_ksK {nm : Str} (G : Kst X.prog X.w X.K X.mg X.base k x C m sp) (hr : Room j X.A) (ha : PE X e te) (hj : k ≤ j := by decide) (hg : Gl X x := by rfl) (hdb : (x == ("__debug__" : Str)) = false := by decide)
    (hall : (backToKw pos (keywordEach [⟨some nm, e, kpos⟩] X.env)).all (·.1.isSome) = true := by rfl) (hks : (backToKw pos (keywordEach [⟨some nm, e, kpos⟩] X.env)).filterMap (·.1) = [Str.ofString "text"] := by rfl)
    (hpl : ((backTo pos (starEach [] X.env)).any (·.1) || (backToKw pos (keywordEach [⟨some nm, e, kpos⟩] X.env)).any (·.1.isNone)) = false := by rfl)
    (ht : eval (.Call (.Attribute (.Name x p) m apos) [] [⟨some nm, e, kpos⟩] pos) X.env = (do
      let ov ← eval (.Name x p) X.env
      standAt apos.atName
      let (f, first) ← holding [ov] (getMethod ov m pl)
      callWith pos f first (backTo pos (starEach [] X.env)) (backToKw pos (keywordEach [⟨some nm, e, kpos⟩] X.env))) := by rfl) :
    PE X (.Call (.Attribute (.Name x p) m apos) [] [⟨some nm, e, kpos⟩] pos) (fun σ H Q => te σ H fun v H1 => sp [v] H1 Q E0) := by
  obtain ⟨mc, g, fd, M, F, _, b⟩ := G.ok
  refine ⟨fun pins s σ H Q I h => (pe_smethK (pl := pl) (pe_glob (v := .ref C) hg G.at_ rfl hdb) M F (hr.mono hj) b pass0 (pk_cons ha pk_nil) hall hks hpl ht).run pins s σ H Q I ?_⟩
  exact ⟨rfl, h⟩
end
theorem all_get {n i j : Nat} {ps : List Piece} {p : Piece} {x : Str} (h : ∀ p ∈ ps, p.Ok n) (hp : ps[i]? = some p) (hx : p.items[j]? = some x) : (allItems n ps)[1 + i * (1 + n + (n * n + n)) + j]? = some x := by
  have z : (ps.map Piece.items).flatten[i * (1 + n + (n * n + n)) + j]? = some x := flat_get (r := p.items) (fun r hr => by
    obtain ⟨q, hq, rfl⟩ := List.mem_map.mp hr
    exact items_len (h q hq)) (by rw [List.getElem?_map, hp]; rfl) hx
  have e : 1 + i * (1 + n + (n * n + n)) + j = (i * (1 + n + (n * n + n)) + j) + 1 := by omega
  unfold allItems
  rw [e, List.getElem?_cons_succ, List.flatMap_def]
  exact z
theorem all_size {n : Nat} {ps : List Piece} (h : ∀ p ∈ ps, p.Ok n) : (allItems n ps).length = 1 + ps.length * (1 + n + (n * n + n)) := by
  unfold allItems
  rw [List.length_cons, flatMap_len (w := n) fun p hp => items_len (h p hp)]
  omega
section
variable {P : Program} {w : World} {K : PySem.W.Frag} {mg : Str → Option Value} {base : Heap}
def spRead (K : PySem.W.Frag) (C : Addr) : Sp := fun vs H Q _ => ∃ (n : Nat) (ps : List Piece), vs = [.str (txtOf n ps)] ∧ 1 ≤ n ∧ n ≤ 2 ∧ (∀ q ∈ ps, q.Ok n) ∧ ps.Nodup ∧ 1 ≤ ps.length ∧ ps.length ≤ 60 ∧ ∀ H' m, H m = none → MachAt K C H' m n ps → Same H H' → Q (.ref m) H'
abbrev NRead : List Str := ["text", "scan", "wide", "found"]
theorem scRead : FnScope NRead ["text"] (defScope sRead) := ⟨rfl, rfl, rfl, by decide +kernel, rfl, by decide +kernel, by decide +kernel⟩
theorem lst_nil_eqv {ds : List PyData} : PyData.eqv (.list ds) (.list []) = ds.isEmpty := by
  cases ds <;> simp [PyData.eqv, PyData.eqvAll]
theorem ok_read {S C f1 f2 : Addr} (T : Bt mg) (N : Cn mg) (ST : ScT K S) (M : McT K mg C) (F : Fst K C "read" "Machine.read" sRead) (GS : Kc P w K mg base 1 "Scan" S (spScanInit S)) (GM : Kc P w K mg base 7 "Machine" C (spMachInit K C)) (GA : Km P w K mg base 1 S "ahead" (spAhead S)) (GF : Km P w K mg base 1 S "finish" (spFinish S))
    (GN : Km P w K mg base 3 S "take_number" (spTakeNumber S)) (G1 : Kp P w K mg base 6 "piece_in" f1 (spPieceIn K S)) (G2 : Kp P w K mg base 1 "are_unlike" f2 (spAreUnlike K)) : Kst P w K mg base 9 "Machine" C "read" (spRead K C) := by
  obtain ⟨mc, g, fd, F1, SM⟩ := F.ex
  refine ⟨⟨mc, g, fd, SM, F1.ok scRead (fun vs H Q E h => ?_) (fun cdv A outer s H vs Q E hr h => ?_), F1.binds (fun _ _ _ _ _ _ us hl => match us, hl with | [_], _ => rfl), ?_⟩, M.at_⟩
  · obtain ⟨n, ps, rfl, _⟩ := h
    rfl
  · obtain ⟨n, ps, rfl, h1, h2, hok, hnd, hl1, hl2, kk⟩ := h
    have hu : (A.deeper (envOfC "Machine.read" (defScope sRead) s.heap.objs.size g cdv)).units + 64 < cLine := hr.units
    refine ⟨_, pss_cons (ps_set (i := 1) scRead.nd rfl (Or.inl rfl) (pe_kc GS hr (pa_cons (pv 0) pa_nil)))
      (pss_cons (ps_par (i := 2) (j := 3) (by rfl) scRead.nd rfl rfl (by decide) rfl rfl (pa_cons (pe_km (pv 1) ST.cl GN hr (pa_cons pe_int (pa_cons (pe_cn N.mw) pa_nil))) (pa_cons (pe_lst pa_nil) pa_nil)) (by rfl))
      (pss_cons (ps_while PassesOwn.never (PW.pt (pw_or (pt_cmpR (op_eqD hu) (pv 3) (pe_lst pa_nil) (nomark _)) (pw_or1 (PW.pt (pw_and (pt_cmpR op_eq (pe_km0 (pv 1) ST.cl GA hr) (pe_cs N.bar) (nomark _)) (pw_and1 (pt_cmpR op_lt (pe_callB call_len_seq (by rfl) T.len_ PySem.boot_len (pa_cons (pv 3) pa_nil)) (pe_cn N.mp) (nomark _))))))))
          (pss_cons (ps_expr (pe_bm PySem.F.plainAttrs_list PySem.F.slot_list_append PySem.F.type_list_append mt_append (pv 3) (pa_cons (pe_k G1 hr (pa_cons (pv 1) (pa_cons (pv 2) pa_nil))) pa_nil)))
            (pss_one (ps_if (pt_not (pt_val (pe_k G2 hr (pa_cons (pv 3) pa_nil)))) pss_never pss_nil))))
      (pss_cons (ps_expr (pe_km0 (pv 1) ST.cl GF hr)) (pss_one (ps_ret (pe_kc GM hr (pa_cons (pv 2) (pa_cons (pv 3) pa_nil)))))))), ?_⟩
    have tl := txt_len h2 hok hl2
    have big : (16777002 : Nat) ≤ sizeLine := by decide
    refine ⟨_, rfl, fun p dx hp hdx hne => ⟨p, dx, txtOf n ps, rfl, upd_same, by omega, fun H1 l hl sc1 b1 => ⟨rfl, ?_⟩⟩⟩
    rw [txt_split h2 hok] at sc1
    have hx0 : (upd H dx (.own p)) p = none := by rw [upd_ne (Ne.symm hne)]; exact hp
    have s0 : Same H (upd (upd H dx (.own p)) p (.ins S dx [])) := Same.new (Same.one hdx) hx0
    have s1 : Same H H1 := fun c o hc => b1 c o (s0 c o hc) (ne_of_none hc hp)
    obtain ⟨dx1, hp1⟩ := sc1.ob
    have noM : ∀ {j m}, ¬ m = ("at" : Str) → ¬ m = ("words" : Str) → (sf l j).lookup m = none := fun h1 h2 => sf_no l _ h1 h2
    have hn9 : (n : Int).natAbs ≤ 1000000 := by omega
    refine ⟨_, rfl, p, dx1, _, rfl, hp1, noM (by decide +kernel) (by decide +kernel), p, l, allItems n ps, 0, 1, 2, (n : Int), rfl, sc1, rfl, by omega, by omega, hn9, fun H2 sc2 b2 => ⟨by show 0 ≤ sizeLine; omega, fun fl hfl => ⟨_, _, rfl, ?_⟩⟩⟩
    have s2 : Same H H2 := same_of_but s1 b2 hp
    have hfl0 : H fl = none := same_free s2 hfl
    have nfp : p ≠ fl := sc2.freeP hfl
    have nfl : l ≠ fl := sc2.freeL hfl
    have sc3 := sc2.put (o := .lst []) nfp nfl
    have s3 : Same H (upd H2 fl (.lst [])) := Same.new s2 hfl
    have e3 : (upd H2 fl (.lst [])) fl = some (.lst []) := upd_same
    generalize upd H2 fl (.lst []) = H3 at sc3 s3 e3 ⊢
    refine ⟨fun m σ' H' => ∃ i xs, m = ps.length - i ∧ i ≤ ps.length ∧ σ' = [some (.str (txtOf n ps)), some (.ref p), some (.int (n : Int)), some (.ref fl)] ∧ ScanAt S H' p l (allItems n ps) (1 + i * (1 + n + (n * n + n))) ∧ H' fl = some (.lst xs) ∧ DpAll K H' xs (dats (ps.take i)) ∧ Same H H',
      ⟨_, 0, [], rfl, Nat.zero_le _, rfl, by rw [Nat.zero_mul]; exact sc3, e3, .nil, s3⟩, ?_⟩
    rintro m σ' H' ⟨i, xs, rfl, hi, rfl, sc, hf, hda, sm⟩
    have hok' : ∀ j, ∀ q ∈ ps.take j, q.Ok n := fun j q hq => hok q (List.mem_of_mem_take hq)
    have hxl : xs.length = i := by rw [dpAll_len hda, List.length_map, List.length_take]; omega
    refine ⟨_, rfl, by show 0 ≤ sizeLine; omega, fun q hq => ⟨_, _, .lst (SqL.of (by rw [upd_ne (ne_of_none hf hq)]; exact hf)) (dpAll_same (Same.one hq) _ _ hda), .lst (SqL.of upd_same) .nil, dats_shapedL (hok' i), by decide +kernel, ?_⟩⟩
    have scq := sc.put (o := .lst []) (sc.freeP hq) (sc.freeL hq)
    have hfq : (upd H' q (.lst [])) fl = some (.lst xs) := by rw [upd_ne (ne_of_none hf hq)]; exact hf
    have hdaq : DpAll K (upd H' q (.lst [])) xs (dats (ps.take i)) := dpAll_same (Same.one hq) _ _ hda
    have smq : Same H (upd H' q (.lst [])) := Same.new sm hq
    generalize upd H' q (.lst []) = Hq at scq hfq hdaq smq ⊢
    obtain ⟨dxq, hpq⟩ := scq.ob
    rw [lst_nil_eqv]
    -- one more turn
    have turn : ∀ (hlt : i < ps.length), ∃ Nx : L2.St → Hp → Prop, (∀ σ'' H'', Nx σ'' H'' → ∃ m', m' < ps.length - i ∧ ∃ i xs, m' = ps.length - i ∧ i ≤ ps.length ∧ σ'' = [some (.str (txtOf n ps)), some (.ref p), some (.int (n : Int)), some (.ref fl)] ∧ ScanAt S H'' p l (allItems n ps) (1 + i * (1 + n + (n * n + n))) ∧ H'' fl = some (.lst xs) ∧ DpAll K H'' xs (dats (ps.take i)) ∧ Same H H'') ∧ Nx = (fun σ'' H'' => ∃ xs, σ'' = [some (.str (txtOf n ps)), some (.ref p), some (.int (n : Int)), some (.ref fl)] ∧ ScanAt S H'' p l (allItems n ps) (1 + (i + 1) * (1 + n + (n * n + n))) ∧ H'' fl = some (.lst xs) ∧ DpAll K H'' xs (dats (ps.take (i + 1))) ∧ Same H H'') :=
      fun hlt => ⟨_, fun σ'' H'' ⟨xs, h⟩ => ⟨ps.length - (i + 1), by omega, i + 1, xs, rfl, hlt, h⟩, rfl⟩
    have body : ∀ (hlt : i < ps.length), ∃ pc, ps[i]? = some pc ∧ pc.Ok n ∧ (∀ j x, pc.items[j]? = some x → (allItems n ps)[1 + i * (1 + n + (n * n + n)) + j]? = some x) := fun hlt => by
      have e := List.getElem?_eq_getElem hlt
      exact ⟨ps[i], e, hok _ (List.mem_of_getElem? e), fun j x hx => all_get hok e hx⟩
    by_cases hlt : i < ps.length
    · obtain ⟨pc, hpi, hpok, hws⟩ := body hlt
      obtain ⟨Nx, hNx, eNx⟩ := turn hlt
      by_cases hi0 : i = 0
      · refine ⟨true, by rw [hi0]; rfl, iteT (iteT ⟨Nx, hNx, ?_⟩)⟩
        refine ⟨_, rfl, .inl ⟨rfl, _, SqL.of hfq⟩, _, rfl, _, rfl, p, l, allItems n ps, _, n, pc, rfl, scq, h2, hpok, hws, fun H4 v sc4 b4 hv => ?_⟩
        have hf4 : H4 fl = some (.lst xs) := b4 _ _ hfq (Ne.symm nfp)
        have hda4 : DpAll K H4 xs (dats (ps.take i)) := scq.dpAll b4 (dats_nm (hok' i)) hdaq
        have s4 : Same H H4 := same_of_but smq b4 hp
        refine ⟨fl, xs, v, rfl, rfl, hf4, Nat.lt_of_le_of_lt (show xs.length ≤ 60 by omega) (by decide), ?_⟩
        have s5 : Same H (upd H4 fl (.lst (xs ++ [v]))) := same_put hfl0 s4
        have sc5 := sc4.put (o := .lst (xs ++ [v])) nfp nfl
        have hda5 : DpAll K (upd H4 fl (.lst (xs ++ [v]))) (xs ++ [v]) (dats (ps.take (i + 1))) := by
          rw [take_next hpi]
          show DpAll K _ _ ((ps.take i ++ [pc]).map Piece.dat)
          rw [List.map_append]
          exact dpAll_app (dpAll_put (dats_nm (hok' i)) hf4 hda4) (dpAll_one (dp_put hpok.nm hf4 hv))
        refine ⟨_, rfl, fl, xs ++ [v], n, ps.take (i + 1), rfl, .inl (SqL.of upd_same), hda5, hok' (i + 1), List.Pairwise.sublist (List.take_sublist _ _) hnd, by rw [List.length_take]; omega, true, rfl, iteF ?_⟩
        rw [eNx]
        refine ⟨xs ++ [v], rfl, ?_, upd_same, hda5, s5⟩
        have e6 : 1 + (i + 1) * (1 + n + (n * n + n)) = 1 + i * (1 + n + (n * n + n)) + pc.items.length := by rw [Nat.succ_mul, items_len hpok]; omega
        rw [e6]
        exact sc5
      · have ew : wordAt (allItems n ps) (1 + i * (1 + n + (n * n + n))) = V.str slash := by
          have e : (allItems n ps)[1 + i * (1 + n + (n * n + n))]? = some slash := hws 0 slash rfl
          unfold wordAt
          rw [e]
        have hne0 : (dats (ps.take i)).isEmpty = false := by
          have e : (dats (ps.take i)).length = i := by rw [List.length_map, List.length_take]; omega
          cases q : dats (ps.take i) with
          | nil =>
            rw [q] at e
            exact absurd e.symm hi0
          | cons d r => rfl
        refine ⟨false, by rw [hne0], iteF ⟨_, rfl, p, dxq, _, rfl, hpq, noM (by decide +kernel) (by decide +kernel), p, l, _, _, rfl, scq, ?_⟩⟩
        rw [ew]
        refine ⟨rfl, true, congrArg V.bl (decide_eq_true rfl), iteT ⟨_, rfl, fl, xs, rfl, .inl (SqL.of hfq), _, _, rfl, rfl, true, congrArg V.bl (decide_eq_true (by omega)), iteT ⟨Nx, hNx, ?_⟩⟩⟩
        refine ⟨_, rfl, .inl ⟨rfl, _, SqL.of hfq⟩, _, rfl, _, rfl, p, l, allItems n ps, _, n, pc, rfl, scq, h2, hpok, hws, fun H4 v sc4 b4 hv => ?_⟩
        have hf4 : H4 fl = some (.lst xs) := b4 _ _ hfq (Ne.symm nfp)
        have hda4 : DpAll K H4 xs (dats (ps.take i)) := scq.dpAll b4 (dats_nm (hok' i)) hdaq
        have s4 : Same H H4 := same_of_but smq b4 hp
        refine ⟨fl, xs, v, rfl, rfl, hf4, Nat.lt_of_le_of_lt (show xs.length ≤ 60 by omega) (by decide), ?_⟩
        have s5 : Same H (upd H4 fl (.lst (xs ++ [v]))) := same_put hfl0 s4
        have sc5 := sc4.put (o := .lst (xs ++ [v])) nfp nfl
        have hda5 : DpAll K (upd H4 fl (.lst (xs ++ [v]))) (xs ++ [v]) (dats (ps.take (i + 1))) := by
          rw [take_next hpi]
          show DpAll K _ _ ((ps.take i ++ [pc]).map Piece.dat)
          rw [List.map_append]
          exact dpAll_app (dpAll_put (dats_nm (hok' i)) hf4 hda4) (dpAll_one (dp_put hpok.nm hf4 hv))
        refine ⟨_, rfl, fl, xs ++ [v], n, ps.take (i + 1), rfl, .inl (SqL.of upd_same), hda5, hok' (i + 1), List.Pairwise.sublist (List.take_sublist _ _) hnd, by rw [List.length_take]; omega, true, rfl, iteF ?_⟩
        rw [eNx]
        refine ⟨xs ++ [v], rfl, ?_, upd_same, hda5, s5⟩
        have e6 : 1 + (i + 1) * (1 + n + (n * n + n)) = 1 + i * (1 + n + (n * n + n)) + pc.items.length := by rw [Nat.succ_mul, items_len hpok]; omega
        rw [e6]
        exact sc5
    · obtain rfl : i = ps.length := by omega
      have hne0 : (dats (ps.take ps.length)).isEmpty = false := by
        have e : (dats (ps.take ps.length)).length = ps.length := by rw [List.length_map, List.length_take]; omega
        cases q : dats (ps.take ps.length) with
        | nil =>
          rw [q] at e
          simp at e
          omega
        | cons d r => rfl
      have ew : wordAt (allItems n ps) (1 + ps.length * (1 + n + (n * n + n))) = V.non := by
        unfold wordAt
        rw [List.getElem?_eq_none (by rw [all_size hok]; exact Nat.le_refl _)]
      refine ⟨false, by rw [hne0], iteF ⟨_, rfl, p, dxq, _, rfl, hpq, noM (by decide +kernel) (by decide +kernel), p, l, _, _, rfl, scq, ?_⟩⟩
      rw [ew]
      refine ⟨rfl, false, congrArg V.bl (decide_eq_false (by intro h; cases h)), iteF (iteF ?_)⟩
      rw [take_all (l := ps) (Nat.le_refl _)] at hdaq
      refine ⟨_, rfl, p, dxq, _, rfl, hpq, noM (by decide +kernel) (by decide +kernel), p, l, _, _, rfl, scq, by rw [all_size hok]; exact Nat.le_refl _, ?_⟩
      refine ⟨_, rfl, _, rfl, fun x dx2 hx hdx2 hne2 => ?_⟩
      have hx1 : (upd Hq dx2 (.own x)) x = none := by rw [upd_ne (Ne.symm hne2)]; exact hx
      have sN : Same Hq (upd (upd Hq dx2 (.own x)) x (.ins C dx2 [])) := Same.new (Same.one hdx2) hx1
      refine ⟨x, dx2, fl, xs, n, ps, rfl, upd_same, SqL.of (sN _ _ hfq), dpAll_same sN _ _ hdaq, h1, h2, hok, hnd, hl1, hl2, fun H9 hm b9 => ⟨rfl, kk _ _ (same_free smq hx) hm ?_⟩⟩
      exact fun c o hc => b9 c o (sN c o (smq c o hc)) (ne_of_none (smq c o hc) hx)
  · obtain ⟨oc, od, kV, doc, pm, an, cdv, ct, osl, rfl, lk, hcd⟩ := F1.ex
    refine ⟨fun s us ws _ hl => ?_, fun r1 r2 => r1.append r2⟩
    match us, ws, hl with
    | [u], [], _ => exact BindsTo.of_eq rfl
    | [], [u], _ => exact BindsTo.of_eq rfl
end
end K6

set_option maxRecDepth 100000
set_option maxHeartbeats 4000000
/-! KD6a: the law's scroll of draws: _law_scroll, _law_roll_by. -/
namespace K6
open PySem PySem.Spec PyProof.Rows L2
open TL (tl)

/-- at p stands a scroll (its cells' list at q), of which at most T draws have been made -/
structure Scr (H : Hp) (p q : Addr) (cells : List Int) (T : Nat) : Prop where
  ob : ∃ t l : Nat, t ≤ T ∧ H p = some (.lst [.ref q, .int (t : Int), .int (l : Int)])
  cs : H q = some (.lst (cells.map V.int))
  ne : q ≠ p
theorem Scr.same {H H' : Hp} {p q : Addr} {cells : List Int} {T : Nat} (s : Scr H p q cells T) (e : Same H H') : Scr H' p q cells T := by
  obtain ⟨t, l, h, h2⟩ := s.ob
  exact ⟨⟨t, l, h, e _ _ h2⟩, e _ _ s.cs, s.ne⟩
theorem Scr.mono {H : Hp} {p q : Addr} {cells : List Int} {T T' : Nat} (s : Scr H p q cells T) (e : T ≤ T') : Scr H p q cells T' := by
  obtain ⟨t, l, h, h2⟩ := s.ob
  exact ⟨⟨t, l, by omega, h2⟩, s.cs, s.ne⟩
theorem Scr.put {H : Hp} {p q D : Addr} {cells : List Int} {T : Nat} {o : HO} (s : Scr H p q cells T) (h1 : p ≠ D) (h2 : q ≠ D) : Scr (upd H D o) p q cells T := by
  obtain ⟨t, l, h, h3⟩ := s.ob
  exact ⟨⟨t, l, h, by rw [upd_ne h1]; exact h3⟩, by rw [upd_ne h2]; exact s.cs, s.ne⟩
theorem Scr.freeP {H : Hp} {p q D : Addr} {cells : List Int} {T : Nat} (s : Scr H p q cells T) (h : H D = none) : p ≠ D := by
  obtain ⟨t, l, _, h3⟩ := s.ob
  exact ne_of_none h3 h
theorem Scr.freeQ {H : Hp} {p q D : Addr} {cells : List Int} {T : Nat} (s : Scr H p q cells T) (h : H D = none) : q ≠ D := ne_of_none s.cs h
/-- the scroll with other numbers -/
theorem Scr.step {H : Hp} {p q : Addr} {cells : List Int} {T : Nat} {t l : Nat} (s : Scr H p q cells T) (h : t ≤ T + 1) : Scr (upd H p (.lst [.ref q, .int (t : Int), .int (l : Int)])) p q cells (T + 1) :=
  ⟨⟨t, l, h, upd_same⟩, by rw [upd_ne s.ne]; exact s.cs, s.ne⟩
theorem ints_lay : ∀ ns : List Int, PyData.canLayAll0 (ns.map .int) = true
  | [] => by simp only [List.map_nil, PyData.canLayAll0]
  | n :: ns => by
    simp only [List.map_cons, PyData.canLayAll0, PyData.canLay0]
    exact ints_lay ns
theorem ints_shaped (ns : List Int) : SeqAt.shaped (.list (ns.map .int)) = true := by
  have e2 : PyData.depthAll (ns.map PyData.int) ≤ 0 := depthAll_le fun d hd => by
    obtain ⟨q, _, rfl⟩ := List.mem_map.mp hd
    simp [PyData.depth]
  have e3 : (PyData.list (ns.map .int)).depth ≤ 64 := by
    simp only [PyData.depth]
    omega
  have e1 : (PyData.list (ns.map .int)).canLay0 = true := by
    simp only [PyData.canLay0]
    exact ints_lay ns
  unfold SeqAt.shaped
  rw [e1, decide_eq_true e3]
  rfl
theorem ints_eqv {ns : List Int} : PyData.eqv (.list (ns.map .int)) (.list []) = ns.isEmpty := by
  cases ns <;> simp [PyData.eqv, PyData.eqvAll]
section
variable {P : Program} {w : World} {K : PySem.W.Frag} {mg : Str → Option Value} {base : Heap}
def spScroll (K : PySem.W.Frag) : Sp := fun vs H Q _ => ∃ (a : Addr) (ns : List Int), vs = [.ref a] ∧ SqL K H a (ns.map V.int) ∧ ∀ H' p q cells, H p = none → H q = none → Scr H' p q cells 0 → Same H H' → Q (.ref p) H'
theorem scScroll : FnScope ["_law_script", "_law_cell"] ["_law_script"] (defScope sScroll) := ⟨rfl, rfl, rfl, by decide +kernel, rfl, by decide +kernel, by decide +kernel⟩
theorem cut58 (xs : List V) : (cutV xs none (some 58)).length ≤ 58 := by
  unfold cutV
  have e : HT.sIx xs.length xs.length (some 58) = min 58 xs.length := HT.sIx_nat _ _ 58
  rw [e, HT.sIx_none, List.length_take, List.length_drop]
  omega
theorem cut_mem {xs : List V} {v : V} {lo hi : Option Int} (h : v ∈ cutV xs lo hi) : v ∈ xs := by
  unfold cutV at h
  exact List.mem_of_mem_drop (List.mem_of_mem_take h)
theorem ints_of : ∀ {ys : List V}, (∀ v ∈ ys, ∃ n : Int, v = .int n) → ∃ ns : List Int, ys = ns.map V.int
  | [], _ => ⟨[], rfl⟩
  | v :: ys, h => by
    obtain ⟨n, rfl⟩ := h _ List.mem_cons_self
    obtain ⟨ns, rfl⟩ := ints_of fun v hv => h v (List.mem_cons_of_mem _ hv)
    exact ⟨n :: ns, rfl⟩
theorem ok_scroll {f : Addr} (T : Bt mg) (F : Fx K mg "_law_scroll" sScroll f) : Kp P w K mg base 1 "_law_scroll" f (spScroll K) := by
  refine kp_mk F scScroll (fun vs H Q E h => ?_) (fun _ _ _ _ _ _ us hl => match us, hl with | [_], _ => rfl) (fun cdv A outer s H vs Q E hr h => ?_)
  · obtain ⟨a, ns, rfl, _⟩ := h
    rfl
  · obtain ⟨a, ns, rfl, ha, kk⟩ := h
    refine ⟨_, pss_one (ps_ret (pe_lst (pa_cons (pe_lc (own := [("_law_cell", 1)]) (g := gName 1) (tt := tYes) rfl scScroll.nd (pi_list (pe_slice sl_list (pv 0) po_none (po_some pe_int))) (blkOk_by (own := [("_law_cell", 1)]) (N := ["_law_script", "_law_cell"]) (sc := defScope sScroll) (by decide +kernel))
        (fun _ _ _ _ _ => pg_name (i := 1) scScroll.nd rfl (Or.inl rfl)) (fun _ _ _ _ _ => pts_nil) (fun _ _ _ _ _ => pe_callTy call_int1 (by rfl) T.int_ PyProof.Rows.boot_int (pa_cons (pv 1) pa_nil))) (pa_cons pe_int (pa_cons pe_int pa_nil))))), ?_⟩
    refine ⟨_, rfl, 58, rfl, a, _, rfl, ha, fun c hc => ⟨c, rfl, ⟨_, SqL.of upd_same⟩, fun D hD => ?_⟩⟩
    have s1 : Same H (upd H c (.lst (cutV (ns.map V.int) none (some 58)))) := Same.one hc
    have hcc : (upd H c (.lst (cutV (ns.map V.int) none (some 58)))) c = some (.lst (cutV (ns.map V.int) none (some 58))) := upd_same
    generalize upd H c (.lst (cutV (ns.map V.int) none (some 58))) = H1 at s1 hcc hD ⊢
    refine lc_same (walk_list (xs := cutV (ns.map V.int) none (some 58))) (small_lt (Nat.le_trans (cut58 _) (by omega))) hD (fun i v H => ∃ n : Int, v = V.int n) (fun _ _ _ _ _ _ h => h) (fun _ _ _ _ _ h => h) (fun acc H2 sm _ => SqL.of (sm _ _ hcc)) (fun _ _ _ _ h => h.1) ?_ ?_
    · rintro i acc x H2 Post hi sm hDD ⟨_, hx⟩ post
      have hm := cut_mem (List.mem_of_getElem? hx)
      obtain ⟨n, _, rfl⟩ := List.mem_map.mp hm
      exact ⟨rfl, _, rfl, .inl ⟨n, rfl, post _ _ (Same.refl _) ⟨n, rfl⟩⟩⟩
    · intro ys H2 hlen hT sm hDD
      obtain ⟨cells, rfl⟩ := ints_of (ys := ys) fun v hv => by
        obtain ⟨i, hi⟩ := List.mem_iff_getElem?.mp hv
        exact hT i v hi
      refine ⟨by show 3 ≤ sizeLine; decide, fun p hp => ?_⟩
      have s02 : Same H H2 := s1.trans sm
      exact kk _ p D cells (same_free s02 hp) (same_free s1 hD) ⟨⟨0, 0, Nat.le_refl _, upd_same⟩, by rw [upd_ne (ne_of_none hDD hp)]; exact hDD, ne_of_none hDD hp⟩ (Same.new s02 hp)

def spRoll : Sp := fun vs H Q _ => ∃ (p q : Addr) (cells : List Int) (T n : Nat), vs = [.ref p, .int (n : Int)] ∧ Scr H p q cells T ∧ T ≤ 100000 ∧ 1 ≤ n ∧ n ≤ 1000 ∧ ∀ H' (r : Nat), r < n → Scr H' p q cells (T + 1) → But p H H' → Q (.int (r : Int)) H'
abbrev NRoll : List Str := ["_law_scroll_here", "_law_many", "_law_left", "_law_turn", "_law_cell", "_law_mixed"]
theorem scRoll : FnScope NRoll ["_law_scroll_here", "_law_many"] (defScope sRollBy) := ⟨rfl, rfl, rfl, by decide +kernel, rfl, by decide +kernel, by decide +kernel⟩
theorem mod_nat {i : Int} {n : Nat} (h : 1 ≤ n) : ∃ r : Nat, i % (n : Int) = (r : Int) ∧ r < n := by
  have h0 : (0 : Int) < (n : Int) := by omega
  have h1 := Int.emod_nonneg i (show (n : Int) ≠ 0 by omega)
  have h2 := Int.emod_lt_of_pos i h0
  exact ⟨(i % (n : Int)).toNat, by omega, by omega⟩
theorem ok_rollBy {f : Addr} (B : Bt mg) (F : Fx K mg "_law_roll_by" sRollBy f) : Kp P w K mg base 1 "_law_roll_by" f spRoll := by
  refine kp_mk F scRoll (fun vs H Q E h => ?_) (fun _ _ _ _ _ _ us hl => match us, hl with | [_, _], _ => rfl) (fun cdv A outer s H vs Q E hr h => ?_)
  · obtain ⟨p, q, cells, T, n, rfl, _⟩ := h
    rfl
  · obtain ⟨p, q, cells, T, n, rfl, sc, hT, hn1, hn, kk⟩ := h
    have hu : (A.deeper (envOfC "_law_roll_by" (defScope sRollBy) s.heap.objs.size f cdv)).units + 64 < cLine := hr.units
    have nd := scRoll.nd
    refine ⟨_, pss_cons (ps_if (pt_cmpR op_gt (pe_ix ix_list (pv 0) pe_int (fun _ _ => rfl)) pe_int (nomark _))
        (pss_cons (ps_set (i := 2) nd rfl (Or.inl rfl) (pe_callTy call_int1 (by rfl) B.int_ PyProof.Rows.boot_int (pa_cons (pe_ix ix_list (pv 0) pe_int (fun _ _ => rfl)) pa_nil)))
        (pss_cons (ps_asg (pe_op op_fdiv (pv 2) (pv 1)) (pg_sub (pv 0) pe_int set_list))
        (pss_one (ps_ret (pe_op op_mod (pe_callTy call_int1 (by rfl) B.int_ PyProof.Rows.boot_int (pa_cons (pv 2) pa_nil)) (pv 1)))))) pss_nil)
      (pss_cons (ps_set (i := 3) nd rfl (Or.inl rfl) (pe_ix ix_list (pv 0) pe_int (fun _ _ => rfl)))
      (pss_cons (ps_asg (pe_op op_add (pv 3) pe_int) (pg_sub (pv 0) pe_int set_list))
      (pss_cons (ps_set (i := 4) nd rfl (Or.inl rfl) (pe_op op_add (pe_op op_mul pe_int (pv 3)) pe_int))
      (C8.pss_cut (ps_if (pt_cmpR (op_neD hu) (pe_ix ix_list (pv 0) pe_int (fun _ _ => rfl)) (pe_lst pa_nil) (nomark _))
        (pss_one (ps_set (i := 4) nd rfl (Or.inl rfl) (pe_ix ix_list (pe_ix ix_list (pv 0) pe_int (fun _ _ => rfl)) (pe_op op_mod (pe_callTy call_int1 (by rfl) B.int_ PyProof.Rows.boot_int (pa_cons (pv 3) pa_nil)) (pe_callB call_len_seq (by rfl) B.len_ PySem.boot_len (pa_cons (pe_ix ix_list (pv 0) pe_int (fun _ _ => rfl)) pa_nil))) (fun _ _ => rfl)))) pss_nil)
      (C8.pss_cut (ps_if (PW.pt (pw_and (pt_cmpR op_lt (pv 3) (pe_callB call_len_seq (by rfl) B.len_ PySem.boot_len (pa_cons (pe_ix ix_list (pv 0) pe_int (fun _ _ => rfl)) pa_nil)) (nomark _)) (pw_and1 (pt_cmpR op_ge (pe_callB call_abs (by rfl) B.abs_ PyProof.Rows.boot_abs (pa_cons (pv 4) pa_nil)) (pe_op op_pow pe_int pe_int) (nomark _)))))
        (pss_cons (ps_set (i := 2) nd rfl (Or.inl rfl) (pe_op op_add (pe_op op_mul pe_int (pe_op op_sub (pe_callB call_abs (by rfl) B.abs_ PyProof.Rows.boot_abs (pa_cons (pe_callTy call_int1 (by rfl) B.int_ PyProof.Rows.boot_int (pa_cons (pv 4) pa_nil)) pa_nil)) (pe_op op_pow pe_int pe_int)))
          (pe_callTy call_int1 (by rfl) B.int_ PyProof.Rows.boot_int (pa_cons (pe_cmpR op_lt (pv 4) pe_int (nomark _)) pa_nil))))
        (pss_cons (ps_asg (pe_op op_fdiv (pv 2) (pv 1)) (pg_sub (pv 0) pe_int set_list))
        (pss_one (ps_ret (pe_op op_mod (pe_callTy call_int1 (by rfl) B.int_ PyProof.Rows.boot_int (pa_cons (pv 2) pa_nil)) (pv 1)))))) pss_nil)
      (C8.pss_cut (ps_set (i := 5) nd rfl (Or.inl rfl) (pe_op op_mod (pe_callTy call_int1 (by rfl) B.int_ PyProof.Rows.boot_int (pa_cons (pe_op op_pow (pe_op op_add (pe_op op_add (pe_op op_mod (pe_callTy call_int1 (by rfl) B.int_ PyProof.Rows.boot_int (pa_cons (pv 4) pa_nil)) pe_int) (pe_op op_mul pe_int (pv 3))) pe_int) pe_int) pa_nil)) pe_int))
      (pss_cons (ps_set (i := 5) nd rfl (Or.inl rfl) (pe_op op_mod (pe_callTy call_int1 (by rfl) B.int_ PyProof.Rows.boot_int (pa_cons (pe_op op_pow (pe_op op_add (pe_op op_add (pe_op op_mul (pv 5) (pe_op op_add (pe_op op_mul pe_int (pv 3)) pe_int)) (pe_op op_mul (pe_op op_mul pe_int (pv 3)) (pv 3))) pe_int) pe_int) pa_nil)) pe_int))
      (pss_one (ps_ret (pe_op op_mod (pe_callTy call_int1 (by rfl) B.int_ PyProof.Rows.boot_int (pa_cons (pe_op op_fdiv (pv 5) pe_int) pa_nil)) (pv 1))))))))))), ?_⟩
    obtain ⟨t, l, ht, hp⟩ := sc.ob
    have hq := sc.cs
    refine ⟨_, rfl, p, _, _, _, rfl, rfl, SqL.of hp, rfl, _, _, rfl, rfl, ?_⟩
    have b64 : (2 : Nat) ^ 64 = 18446744073709551616 := by decide
    have i64 : (2 : Int) ^ 64 = 18446744073709551616 := by decide
    by_cases hl : (0 : Int) < (l : Int)
    · refine ⟨true, congrArg V.bl (decide_eq_true hl), iteT ?_⟩
      refine ⟨_, rfl, p, _, _, _, rfl, rfl, SqL.of hp, rfl, .inl ⟨_, rfl, ?_⟩⟩
      refine ⟨_, rfl, _, rfl, _, _, rfl, rfl, ⟨by omega, by omega⟩, _, rfl, p, _, _, _, rfl, rfl, hp, rfl, ?_⟩
      refine ⟨_, rfl, .inl ⟨_, rfl, _, rfl, _, _, rfl, rfl, (by show (0 : Int) < (n : Int); omega), ?_⟩⟩
      show Q (V.int ((l : Int) % (n : Int))) (upd H p (.lst [V.ref q, V.int (t : Int), V.int ((l : Int) / (n : Int))]))
      rw [← Int.natCast_emod, ← Int.natCast_ediv]
      exact kk _ _ (Nat.mod_lt _ (by omega)) (sc.step (by omega)) But.put
    · refine ⟨false, congrArg V.bl (decide_eq_false hl), iteF ?_⟩
      refine ⟨_, rfl, p, _, _, _, rfl, rfl, SqL.of hp, rfl, ?_⟩
      refine ⟨_, rfl, _, _, rfl, rfl, _, rfl, p, _, _, _, rfl, rfl, hp, rfl, ?_⟩
      refine ⟨_, rfl, _, _, rfl, rfl, .inl ⟨by decide, by decide⟩, _, _, rfl, rfl, ?_⟩
      have sc1 : Scr (upd H p (.lst [V.ref q, V.int (((t + 1 : Nat) : Nat) : Int), V.int (l : Int)])) p q cells (T + 1) := sc.step (by omega)
      have b1 : But p H (upd H p (.lst [V.ref q, V.int (((t + 1 : Nat) : Nat) : Int), V.int (l : Int)])) := But.put
      have hp1 : (upd H p (.lst [V.ref q, V.int (((t + 1 : Nat) : Nat) : Int), V.int (l : Int)])) p = some (.lst [V.ref q, V.int (((t + 1 : Nat) : Nat) : Int), V.int (l : Int)]) := upd_same
      have hq1 := sc1.cs
      refine ⟨fun σ' H' => ∃ c : Int, σ' = [some (.ref p), some (.int (n : Int)), none, some (.int (t : Int)), some (.int c), none] ∧ Same (upd H p (.lst [V.ref q, V.int (((t + 1 : Nat) : Nat) : Int), V.int (l : Int)])) H', ?_, ?_⟩
      · refine ⟨_, rfl, p, _, _, _, rfl, rfl, SqL.of hp1, rfl, by show 0 ≤ sizeLine; omega, fun e he => ⟨_, _, .lst (SqL.of ((Same.one he) _ _ hq1)) (dpAll_ints cells), .lst (SqL.of upd_same) .nil, ints_shaped cells, by decide +kernel, ?_⟩⟩
        rw [ints_eqv]
        have se : Same _ _ := Same.one (o := .lst []) he
        cases cells with
        | nil => exact ⟨false, rfl, iteF ⟨_, rfl, se⟩⟩
        | cons c0 cs =>
          have hpe := se _ _ hp1
          have hqe := se _ _ hq1
          have hlt : t % (c0 :: cs).length < (c0 :: cs).length := Nat.mod_lt _ (by simp)
          refine ⟨true, rfl, iteT ⟨_, rfl, p, _, _, _, rfl, rfl, SqL.of hpe, rfl, _, rfl, .inl ⟨_, rfl, _, rfl, p, _, _, _, rfl, rfl, SqL.of hpe, rfl, q, _, rfl, .inl (SqL.of hqe), _, _, rfl, rfl, ?_, q, _, _, V.int ((c0 :: cs)[t % (c0 :: cs).length]), rfl, rfl, SqL.of hqe, ?_, ⟨_, rfl, se⟩⟩⟩⟩
          · show (0 : Int) < (((c0 :: cs).map V.int).length : Nat)
            rw [List.length_map]
            simp
          · show atI ((c0 :: cs).map V.int) ((t : Int) % ((((c0 :: cs).map V.int).length : Nat) : Int)) = _
            rw [List.length_map, ← Int.natCast_emod]
            refine atI_nat ?_
            rw [List.getElem?_map, List.getElem?_eq_getElem hlt]
            rfl
      · rintro σ' H' ⟨c, rfl, s1⟩
        have scH := sc1.same s1
        have bH : But p H H' := But.trans b1 (But.of s1)
        have hpH := s1 _ _ hp1
        have hqH := s1 _ _ hq1
        have fin : ∀ E : Int, Q (.int (E % (n : Int))) H' := fun E => by
          obtain ⟨r, e, hr'⟩ := mod_nat (i := E) hn1
          rw [e]
          exact kk _ _ hr' scH bH
        have pow : CPow 10 18 := ⟨by decide, by decide, by decide⟩
        refine ⟨fun σ'' H'' => σ'' = [some (.ref p), some (.int (n : Int)), none, some (.int (t : Int)), some (.int c), none] ∧ H'' = H', ?_, ?_⟩
        · refine ⟨_, rfl, _, rfl, p, _, _, _, rfl, rfl, SqL.of hpH, rfl, q, _, rfl, .inl (SqL.of hqH), _, _, rfl, rfl, ?_⟩
          by_cases h1 : (t : Int) < (((cells.map V.int).length : Nat) : Int)
          · refine ⟨true, congrArg V.bl (decide_eq_true h1), iteT ⟨_, rfl, c, rfl, _, _, rfl, rfl, pow, _, _, rfl, rfl, ?_⟩⟩
            by_cases h2 : (10 : Int) ^ (18 : Int).toNat ≤ (if c < 0 then -c else c)
            · refine ⟨true, congrArg V.bl (decide_eq_true h2), iteT ?_⟩
              refine ⟨_, rfl, .inl ⟨c, rfl, c, rfl, _, _, rfl, rfl, pow, _, _, rfl, rfl, _, _, rfl, rfl, .inl ⟨by decide, by decide⟩, _, rfl, _, _, rfl, rfl, .inr ⟨_, rfl, _, _, rfl, rfl, ?_⟩⟩⟩
              refine ⟨_, rfl, _, rfl, _, _, rfl, rfl, ⟨by omega, by omega⟩, _, rfl, p, _, _, _, rfl, rfl, hpH, rfl, ?_⟩
              refine ⟨_, rfl, .inl ⟨_, rfl, _, rfl, _, _, rfl, rfl, (by show (0 : Int) < (n : Int); omega), ?_⟩⟩
              have key : ∀ E : Int, 0 ≤ E → Q (V.int (E % (n : Int))) (upd H' p (.lst [V.ref q, V.int (((t + 1 : Nat) : Nat) : Int), V.int (E / (n : Int))])) := fun E hE => by
                obtain ⟨L, rfl⟩ := Int.eq_ofNat_of_zero_le hE
                rw [← Int.natCast_emod, ← Int.natCast_ediv]
                have st : Scr (upd H' p (.lst [V.ref q, V.int (((t + 1 : Nat) : Nat) : Int), V.int ((L / n : Nat) : Int)])) p q cells (T + 1) := ⟨⟨t + 1, L / n, by omega, upd_same⟩, by rw [upd_ne scH.ne]; exact scH.cs, scH.ne⟩
                exact kk _ _ (Nat.mod_lt _ (by omega)) st bH.upd
              refine key _ ?_
              generalize (10 : Int) ^ (18 : Int).toNat = Z at h2 ⊢
              split at h2 <;> split <;> omega
            · exact ⟨false, congrArg V.bl (decide_eq_false h2), iteF ⟨rfl, rfl⟩⟩
          · exact ⟨false, congrArg V.bl (decide_eq_false h1), iteF ⟨rfl, rfl⟩⟩
        · rintro σ'' H'' ⟨rfl, rfl⟩
          refine ⟨fun σ3 H3 => ∃ m : Int, 0 ≤ m ∧ m < 2147483579 ∧ σ3 = [some (.ref p), some (.int (n : Int)), none, some (.int (t : Int)), some (.int c), some (.int m)] ∧ H3 = H'', ?_, ?_⟩
          · refine ⟨_, rfl, .inl ⟨_, rfl, _, _, rfl, rfl, (by show (0 : Int) < 2147483563; decide), _, rfl, _, _, rfl, rfl, .inl ⟨by decide, by decide⟩, _, _, rfl, rfl, _, _, rfl, rfl, _, _, rfl, rfl, ⟨by decide, by decide, ?_⟩, .inl ⟨_, rfl, _, _, rfl, rfl, (by show (0 : Int) < 2147483579; decide), ⟨_, Int.emod_nonneg _ (by decide), Int.emod_lt_of_pos _ (by decide), rfl, rfl⟩⟩⟩⟩
            have h1 := Int.emod_nonneg c (show (2147483563 : Int) ≠ 0 by decide)
            have h2 := Int.emod_lt_of_pos c (show (0 : Int) < 2147483563 by decide)
            rw [b64]
            omega
          · rintro σ3 H3 ⟨m, hm0, hm1, rfl, rfl⟩
            refine ⟨_, rfl, _, rfl, _, _, rfl, rfl, .inl ⟨by decide, by decide⟩, _, _, rfl, rfl, _, _, rfl, rfl, .inl ⟨by omega, by omega⟩, _, rfl, _, _, rfl, rfl, .inl ⟨by decide, by decide⟩, _, rfl, _, _, rfl, rfl, .inr ⟨by omega, by omega⟩, _, _, rfl, rfl, _, _, rfl, rfl, _, _, rfl, rfl, ⟨by decide, by decide, ?_⟩, .inl ⟨_, rfl, _, _, rfl, rfl, (by show (0 : Int) < 2147483549; decide), ?_⟩⟩
            · have e1 : (0 : Int) ≤ 2 * (t : Int) + 8317 := by omega
              have e2 : 2 * (t : Int) + 8317 ≤ 208317 := by omega
              have e3 : (0 : Int) ≤ m * (2 * (t : Int) + 8317) := Int.mul_nonneg hm0 e1
              have e4 : m * (2 * (t : Int) + 8317) ≤ 2147483579 * 208317 := Int.mul_le_mul (by omega) e2 e1 (by decide)
              have e5 : (0 : Int) ≤ 110023 * (t : Int) * (t : Int) := Int.mul_nonneg (by omega) (by omega)
              have e6 : 110023 * (t : Int) * (t : Int) ≤ 11002300000 * 100000 := Int.mul_le_mul (by omega) (by omega) (by omega) (by decide)
              rw [b64]
              omega
            · exact ⟨_, rfl, _, _, rfl, rfl, ⟨by decide, by decide⟩, .inl ⟨_, rfl, _, rfl, _, _, rfl, rfl, (by show (0 : Int) < (n : Int); omega), fin _⟩⟩
end
end K6

set_option maxRecDepth 100000
set_option maxHeartbeats 4000000
/-! KD6b: _law_pick, _law_form, _law_number, _law_written. -/
namespace K6
open PySem PySem.Spec PyProof.Rows L2
open TL (tl)

theorem Scr.ob1 {H : Hp} {p q : Addr} {cells : List Int} {T : Nat} (s : Scr H p q cells T) : ∃ xs, H p = some (.lst xs) := by
  obtain ⟨t, l, _, h⟩ := s.ob
  exact ⟨_, h⟩
section
variable {P : Program} {w : World} {K : PySem.W.Frag} {mg : Str → Option Value} {base : Heap}
theorem Scr.dp {H H' : Hp} {p q : Addr} {cells : List Int} {T : Nat} {d : PyData} {v : V} (s : Scr H p q cells T) (e : But p H H') (hn : nm d = true) (h : Dp K H v d) : Dp K H' v d := by
  obtain ⟨xs, hp⟩ := s.ob1
  exact dp_but hp (noTup_lst _) e d v hn h
theorem Scr.dpAll {H H' : Hp} {p q : Addr} {cells : List Int} {T : Nat} {d : List PyData} {v : List V} (s : Scr H p q cells T) (e : But p H H') (hn : nmAll d = true) (h : DpAll K H v d) : DpAll K H' v d := by
  obtain ⟨xs, hp⟩ := s.ob1
  exact dpAll_but hp (noTup_lst _) e d v hn h
def spPick : Sp := fun vs H Q _ => ∃ (p q b : Addr) (cells : List Int) (T : Nat) (xs : List V), vs = [.ref p, .ref b] ∧ Scr H p q cells T ∧ T ≤ 100000 ∧ H b = some (.lst xs) ∧ b ≠ p ∧ 1 ≤ xs.length ∧ xs.length ≤ 1000 ∧ ∀ H' v, v ∈ xs → Scr H' p q cells (T + 1) → But p H H' → Q v H'
theorem scPick : FnScope ["_law_scroll_here", "_law_some"] ["_law_scroll_here", "_law_some"] (defScope sPick) := ⟨rfl, rfl, rfl, by decide +kernel, rfl, by decide +kernel, by decide +kernel⟩
theorem ok_pick {f g : Addr} (B : Bt mg) (F : Fx K mg "_law_pick" sPick f) (G : Kp P w K mg base 1 "_law_roll_by" g spRoll) : Kp P w K mg base 2 "_law_pick" f spPick := by
  refine kp_mk F scPick (fun vs H Q E h => ?_) (fun _ _ _ _ _ _ us hl => match us, hl with | [_, _], _ => rfl) (fun cdv A outer s H vs Q E hr h => ?_)
  · obtain ⟨p, q, b, cells, T, xs, rfl, _⟩ := h
    rfl
  · obtain ⟨p, q, b, cells, T, xs, rfl, sc, hT, hb, hbp, h1, h2, kk⟩ := h
    refine ⟨_, pss_one (ps_ret (pe_ix ix_list (pv 1) (pe_k G hr (pa_cons (pv 0) (pa_cons (pe_callB call_len_seq (by rfl) B.len_ PySem.boot_len (pa_cons (pv 1) pa_nil)) pa_nil))) (fun _ _ => rfl))), ?_⟩
    refine ⟨_, rfl, _, rfl, _, rfl, b, _, rfl, .inl (SqL.of hb), p, q, cells, T, xs.length, rfl, sc, hT, h1, h2, fun H' r hr' sc' b' => ?_⟩
    exact ⟨b, xs, _, xs[r], rfl, rfl, SqL.of (b' _ _ hb hbp), atI_nat (List.getElem?_eq_getElem hr'), kk _ _ (List.getElem_mem hr') sc' b'⟩

/-! ### lowest terms -/
def formOf (a b : Int) : Num := if b / (Nat.gcd a.natAbs b.natAbs : Nat) = 1 then .whole (a / (Nat.gcd a.natAbs b.natAbs : Nat)) else .frac (a / (Nat.gcd a.natAbs b.natAbs : Nat)) (b / (Nat.gcd a.natAbs b.natAbs : Nat))
theorem form_ok {a b : Int} (ha : a.natAbs ≤ 1000) (h1 : 1 ≤ b) (hb : b ≤ 1000) : (formOf a b).Ok ∧ 1 ≤ Nat.gcd a.natAbs b.natAbs ∧ Nat.gcd a.natAbs b.natAbs ≤ 1000 := by
  have g1 : 0 < Nat.gcd a.natAbs b.natAbs := Nat.gcd_pos_of_pos_right _ (by omega)
  have g2 : Nat.gcd a.natAbs b.natAbs ≤ b.natAbs := Nat.gcd_le_right _ (by omega)
  refine ⟨?_, g1, by omega⟩
  obtain ⟨x, hx⟩ := Int.ofNat_dvd_left.mpr (Nat.gcd_dvd_left a.natAbs b.natAbs)
  obtain ⟨y, hy⟩ := Int.ofNat_dvd_left.mpr (Nat.gcd_dvd_right a.natAbs b.natAbs)
  have hg : Nat.gcd x.natAbs y.natAbs = 1 := by
    have e : Nat.gcd a.natAbs b.natAbs = Nat.gcd a.natAbs b.natAbs * Nat.gcd x.natAbs y.natAbs := by
      have e1 : a.natAbs = Nat.gcd a.natAbs b.natAbs * x.natAbs := by
        have := congrArg Int.natAbs hx
        rw [Int.natAbs_mul, Int.natAbs_natCast] at this
        exact this
      have e2 : b.natAbs = Nat.gcd a.natAbs b.natAbs * y.natAbs := by
        have := congrArg Int.natAbs hy
        rw [Int.natAbs_mul, Int.natAbs_natCast] at this
        exact this
      rw [← Nat.gcd_mul_left, ← e1, ← e2]
    have e3 : Nat.gcd a.natAbs b.natAbs * 1 = Nat.gcd a.natAbs b.natAbs * Nat.gcd x.natAbs y.natAbs := by rw [Nat.mul_one]; exact e
    exact (Nat.eq_of_mul_eq_mul_left g1 e3).symm
  unfold formOf
  generalize Nat.gcd a.natAbs b.natAbs = g at hx hy g1 g2 ⊢
  have g0 : (0 : Int) < (g : Int) := by omega
  have ex : a / (g : Int) = x := by rw [hx, Int.mul_ediv_cancel_left _ (by omega)]
  have ey : b / (g : Int) = y := by rw [hy, Int.mul_ediv_cancel_left _ (by omega)]
  rw [ex, ey]
  have hxa : x.natAbs ≤ 1000 := by
    have := congrArg Int.natAbs hx
    rw [Int.natAbs_mul, Int.natAbs_natCast] at this
    have h2 : x.natAbs ≤ g * x.natAbs := Nat.le_mul_of_pos_left _ g1
    omega
  have hya : y.natAbs ≤ 1000 := by
    have := congrArg Int.natAbs hy
    rw [Int.natAbs_mul, Int.natAbs_natCast] at this
    have h2 : y.natAbs ≤ g * y.natAbs := Nat.le_mul_of_pos_left _ g1
    omega
  have hyp : 0 < y := by
    rcases Int.lt_or_le 0 y with h | h
    · exact h
    · have : (g : Int) * y ≤ 0 := Int.mul_nonpos_of_nonneg_of_nonpos (by omega) h
      omega
  split
  · show x.natAbs ≤ 1000000
    omega
  · exact ⟨by omega, by omega, by omega, hg⟩
def spForm (K : PySem.W.Frag) : Sp := fun vs H Q _ => ∃ (a b : Int), vs = [.int a, .int b] ∧ a.natAbs ≤ 1000 ∧ 1 ≤ b ∧ b ≤ 1000 ∧ ∀ H' v q, Num.Ok q → Dp K H' v q.dat → Same H H' → Q v H'
abbrev NForm : List Str := ["_law_above", "_law_under", "_law_one", "_law_other"]
theorem scForm : FnScope NForm ["_law_above", "_law_under"] (defScope sForm) := ⟨rfl, rfl, rfl, by decide +kernel, rfl, by decide +kernel, by decide +kernel⟩
theorem ok_form {f : Addr} (B : Bt mg) (F : Fx K mg "_law_form" sForm f) : Kp P w K mg base 1 "_law_form" f (spForm K) := by
  refine kp_mk F scForm (fun vs H Q E h => ?_) (fun _ _ _ _ _ _ us hl => match us, hl with | [_, _], _ => rfl) (fun cdv A outer s H vs Q E hr h => ?_)
  · obtain ⟨a, b, rfl, _⟩ := h
    rfl
  · obtain ⟨a, b, rfl, ha, hb1, hb2, kk⟩ := h
    have nd := scForm.nd
    refine ⟨_, pss_cons (ps_par (i := 2) (j := 3) (by rfl) nd rfl rfl (by decide) rfl rfl (pa_cons (pe_callB call_abs (by rfl) B.abs_ PyProof.Rows.boot_abs (pa_cons (pv 0) pa_nil)) (pa_cons (pe_callB call_abs (by rfl) B.abs_ PyProof.Rows.boot_abs (pa_cons (pv 1) pa_nil)) pa_nil)) (by rfl))
      (pss_cons (ps_while PassesOwn.never (pt_cmpR op_gt (pv 3) pe_int (nomark _)) (pss_one (ps_par (i := 2) (j := 3) (by rfl) nd rfl rfl (by decide) rfl rfl (pa_cons (pv 3) (pa_cons (pe_op op_mod (pe_callTy call_int1 (by rfl) B.int_ PyProof.Rows.boot_int (pa_cons (pv 2) pa_nil)) (pv 3)) pa_nil)) (by rfl))))
      (pss_cons (ps_set (i := 2) nd rfl (Or.inl rfl) (pe_ifExp (pt_cmpR op_gt (pv 1) pe_int (nomark _)) (pv 2) (pe_un un_neg (pv 2))))
      (pss_one (ps_ret (pe_ifExp (pt_cmpR op_eq (pe_op op_fdiv (pv 1) (pv 2)) pe_int (nomark _)) (pe_op op_fdiv (pv 0) (pv 2)) (pe_tup (pa_cons (pe_op op_fdiv (pv 0) (pv 2)) (pa_cons (pe_op op_fdiv (pv 1) (pv 2)) pa_nil)))))))), ?_⟩
    refine ⟨_, rfl, a, rfl, _, rfl, b, rfl, _, _, rfl, ?_⟩
    refine while_by (fun σ H' => ∃ m n : Nat, σ = [some (.int a), some (.int b), some (.int (m : Int)), some (.int (n : Int))] ∧ H' = H ∧ Nat.gcd m n = Nat.gcd a.natAbs b.natAbs) (fun σ _ => match σ with | [_, _, _, some (.int n)] => n.toNat | _ => 0)
      ⟨a.natAbs, b.natAbs, by rw [abs_nat, abs_nat]; rfl, rfl, rfl⟩ ?_ (fun σ H Q Q' h q => ?_)
    · rintro σ H' ⟨m, n, rfl, rfl, hg⟩
      refine ⟨_, rfl, _, _, rfl, rfl, _, rfl, ?_⟩
      by_cases hn : 0 < n
      · rw [decide_eq_true (show (0 : Int) < (n : Int) by omega)]
        refine iteT ⟨_, rfl, _, rfl, .inl ⟨_, rfl, _, rfl, _, _, rfl, rfl, (by show (0 : Int) < (n : Int); omega), _, _, rfl, ?_, ?_⟩⟩
        · refine ⟨n, m % n, ?_, rfl, ?_⟩
          · rw [Int.natCast_emod]
            rfl
          · rw [← hg, Nat.gcd_comm n, ← Nat.gcd_rec, Nat.gcd_comm]
        · show ((m : Int) % (n : Int)).toNat < (n : Int).toNat
          rw [← Int.natCast_emod, Int.toNat_natCast, Int.toNat_natCast]
          exact Nat.mod_lt m hn
      · have h0 : n = 0 := by omega
        subst h0
        rw [decide_eq_false (show ¬ (0 : Int) < ((0 : Nat) : Int) by omega)]
        rw [Nat.gcd_zero_right] at hg
        subst hg
        obtain ⟨hok, g1, g2⟩ := form_ok ha hb1 hb2
        refine iteF ⟨_, rfl, _, _, rfl, rfl, true, congrArg V.bl (decide_eq_true (by omega)), iteT ⟨_, rfl, ?_⟩⟩
        have cd : ∀ i, CDiv i ((Nat.gcd a.natAbs b.natAbs : Nat) : Int) := fun _ => ⟨by omega, by omega⟩
        unfold formOf at hok
        refine ⟨_, rfl, _, rfl, _, _, rfl, rfl, cd _, rfl, ?_⟩
        by_cases e : b / ((Nat.gcd a.natAbs b.natAbs : Nat) : Int) = 1
        · rw [if_pos e] at hok
          refine ⟨true, congrArg V.bl (decide_eq_true (congrArg V.int e)), iteT ⟨_, rfl, _, rfl, _, _, rfl, rfl, cd _, kk _ _ _ hok (.int _) (Same.refl _)⟩⟩
        · rw [if_neg e] at hok
          refine ⟨false, congrArg V.bl (decide_eq_false fun z => e (by injection z)), iteF ⟨_, rfl, _, rfl, _, _, rfl, rfl, cd _, _, rfl, _, rfl, _, _, rfl, rfl, cd _, by show 2 ≤ sizeLine; decide, fun t ht => kk _ _ _ hok (num_frac (.inl (.inl upd_same))) (Same.one ht)⟩⟩
    · obtain ⟨v, e, i, j, h1, h2, b', h3, h4⟩ := q
      exact ⟨v, e, i, j, h1, h2, b', h3, h _ _ h4⟩

/-! ### a number -/
def spNumber (K : PySem.W.Frag) : Sp := fun vs H Q _ => ∃ (p q : Addr) (cells : List Int) (T : Nat), vs = [.ref p] ∧ Scr H p q cells T ∧ T + 10 ≤ 100000 ∧ ∀ H' v qn, Num.Ok qn → Dp K H' v qn.dat → Scr H' p q cells (T + 4) → But p H H' → Q v H'
abbrev NNumber : List Str := ["_law_scroll_here", "_law_above", "_law_under"]
theorem scNumber : FnScope NNumber ["_law_scroll_here"] (defScope sNumber) := ⟨rfl, rfl, rfl, by decide +kernel, rfl, by decide +kernel, by decide +kernel⟩
theorem ok_number {f g1 g2 g3 : Addr} (F : Fx K mg "_law_number" sNumber f) (G1 : Kp P w K mg base 1 "_law_roll_by" g1 spRoll) (G2 : Kp P w K mg base 2 "_law_pick" g2 spPick) (G3 : Kp P w K mg base 1 "_law_form" g3 (spForm K)) : Kp P w K mg base 3 "_law_number" f (spNumber K) := by
  refine kp_mk F scNumber (fun vs H Q E h => ?_) (fun _ _ _ _ _ _ us hl => match us, hl with | [_], _ => rfl) (fun cdv A outer s H vs Q E hr h => ?_)
  · obtain ⟨p, q, cells, T, rfl, _⟩ := h
    rfl
  · obtain ⟨p, q, cells, T, rfl, sc, hT, kk⟩ := h
    have nd := scNumber.nd
    refine ⟨_, pss_cons (ps_par (i := 1) (j := 2) (by rfl) nd rfl rfl (by decide) rfl rfl (pa_cons (pe_op op_sub (pe_k G1 hr (pa_cons (pv 0) (pa_cons pe_int pa_nil))) pe_int) (pa_cons (pe_op op_add pe_int (pe_k G1 hr (pa_cons (pv 0) (pa_cons pe_int pa_nil)))) pa_nil)) (by rfl))
      (pss_one (ps_ret (pe_k G2 hr (pa_cons (pv 0) (pa_cons (pe_lst (pa_cons (pe_op op_sub (pe_k G1 hr (pa_cons (pv 0) (pa_cons pe_int pa_nil))) pe_int) (pa_cons (pe_k G3 hr (pa_cons (pv 1) (pa_cons (pv 2) pa_nil))) (pa_cons (pe_k G3 hr (pa_cons (pv 1) (pa_cons (pv 2) pa_nil)))
        (pa_cons pe_int (pa_cons pe_int (pa_cons (pe_tup (pa_cons pe_int (pa_cons pe_int pa_nil))) (pa_cons pe_int pa_nil)))))))) pa_nil))))), ?_⟩
    refine ⟨_, rfl, p, q, cells, T, 13, rfl, sc, by omega, by omega, by omega, fun H1 a ha sc1 b1 => ⟨_, _, rfl, rfl, _, rfl, p, q, cells, _, 6, rfl, sc1, by omega, by omega, by omega, fun H2 b hb sc2 b2 => ⟨_, _, rfl, rfl, _, _, rfl, ?_⟩⟩⟩
    refine ⟨_, rfl, _, rfl, p, q, cells, _, 7, rfl, sc2, by omega, by omega, by omega, fun H3 c hc sc3 b3 => ⟨_, _, rfl, rfl, ?_⟩⟩
    refine ⟨_, rfl, _, rfl, _, _, rfl, by omega, by omega, by omega, fun H4 v1 q1 ok1 d1 s4 => ?_⟩
    refine ⟨_, rfl, _, rfl, _, _, rfl, by omega, by omega, by omega, fun H5 v2 q2 ok2 d2 s5 => ⟨by show 2 ≤ sizeLine; decide, fun t ht => ⟨by show 7 ≤ sizeLine; decide, fun l hl => ?_⟩⟩⟩
    have s6 : Same H5 (upd H5 t (.tup [V.int 1, V.int 2])) := Same.one ht
    have s7 : Same (upd H5 t (.tup [V.int 1, V.int 2])) (upd (upd H5 t (.tup [V.int 1, V.int 2])) l (.lst [V.int ((c : Int) - 3), v1, v2, V.int 1, V.int 0, V.ref t, V.int 2])) := Same.one hl
    have s37 := Same.trans (Same.trans (Same.trans s4 s5) s6) s7
    have sc7 := sc3.same s37
    refine ⟨p, q, l, cells, _, _, rfl, sc7, by omega, upd_same, Ne.symm ((sc3.same (Same.trans (Same.trans s4 s5) s6)).freeP hl), by show 1 ≤ 7; decide, by show 7 ≤ 1000; decide, fun H8 v hv sc8 b8 => ?_⟩
    have bAll : But p H H8 := (((b1.trans b2).trans b3).trans (But.of s37)).trans b8
    have fin : ∀ qn : Num, qn.Ok → Dp K _ v qn.dat → _ := fun qn hok hd => kk H8 v qn hok (sc7.dp b8 hok.nm hd) sc8 bAll
    simp only [List.mem_cons, List.not_mem_nil, or_false] at hv
    rcases hv with rfl | rfl | rfl | rfl | rfl | rfl | rfl
    · exact fin (.whole ((c : Int) - 3)) (by show ((c : Int) - 3).natAbs ≤ 1000000; omega) (.int _)
    · exact fin q1 ok1 (dp_same (Same.trans (Same.trans s5 s6) s7) _ _ d1)
    · exact fin q2 ok2 (dp_same (Same.trans s6 s7) _ _ d2)
    · exact fin (.whole 1) (by show (1 : Int).natAbs ≤ 1000000; decide) (.int _)
    · exact fin (.whole 0) (by show (0 : Int).natAbs ≤ 1000000; decide) (.int _)
    · exact fin (.frac 1 2) ⟨by decide, by decide, by decide, by decide⟩ (num_frac (.inl (.inl (s7 _ _ upd_same))))
    · exact fin (.whole 2) (by show (2 : Int).natAbs ≤ 1000000; decide) (.int _)

theorem scLawWritten : FnScope ["_law_number_here"] ["_law_number_here"] (defScope sLawWritten) := ⟨rfl, rfl, rfl, by decide +kernel, rfl, by decide +kernel, by decide +kernel⟩
theorem ok_lawWritten {f : Addr} (T : Bt mg) (F : Fx K mg "_law_written" sLawWritten f) : Kp P w K mg base 1 "_law_written" f (spTextIn K) := by
  refine kp_mk F scLawWritten (fun vs H Q E h => ?_) (fun _ _ _ _ _ _ us hl => match us, hl with | [_], _ => rfl) (fun cdv A outer s H vs Q E hr h => ?_)
  · obtain ⟨v, q, rfl, _⟩ := h
    rfl
  · obtain ⟨v, q, rfl, hv, hq, k⟩ := h
    refine ⟨_, pss_one (ps_ret (pe_ifExp (pt_val (pe_isi (pv 0) T.isi T.int_ (by rfl) (by rfl) PyProof.Rows.boot_int (by decide) (by decide))) (pe_callTy call_str_int (by rfl) T.str_ PyProof.Rows.boot_str (pa_cons (pv 0) pa_nil))
      (pe_op op_add_str (pe_op op_add_str (pe_callTy call_str_int (by rfl) T.str_ PyProof.Rows.boot_str (pa_cons (pe_ix ix_tup (pv 0) pe_int (fun _ _ => rfl)) pa_nil)) pe_str) (pe_callTy call_str_int (by rfl) T.str_ PyProof.Rows.boot_str (pa_cons (pe_ix ix_tup (pv 0) pe_int (fun _ _ => rfl)) pa_nil))))), ?_⟩
    rcases num_cases hv with ⟨n, rfl, rfl⟩ | ⟨a, b, t, rfl, rfl, hs⟩
    · exact ⟨_, rfl, .type "int", true, .base (.int n), kit_ty (by decide +kernel), true, rfl, iteT ⟨_, rfl, n, rfl, small_log hq, k⟩⟩
    · have hl := hq.len
      obtain ⟨h1, h2, h3, _⟩ := hq
      have la := istr_len (n := a) h1
      have lb := istr_len (n := b) (by omega)
      have z17 : (17 : Nat) ≤ sizeLine := by decide
      have ls : (istr a ++ slash).length = (istr a).length + 1 := by
        rw [strLen_append]
        rfl
      refine ⟨_, rfl, .type "tuple", false, tyT hs, kit_ty (by decide +kernel), false, rfl, iteF ⟨_, rfl, t, _, _, _, rfl, rfl, hs, rfl, a, rfl, small_log h1, _, _, rfl, rfl, (by show (istr a).length + 1 ≤ sizeLine; omega), _, rfl, t, _, _, _, rfl, rfl, hs, rfl, b, rfl, small_log (by omega), _, _, rfl, rfl, (by show (istr a ++ slash).length + (istr b).length ≤ sizeLine; rw [ls]; omega), k⟩⟩
end
end K6

set_option maxRecDepth 100000
set_option maxHeartbeats 4000000
/-! KD6c: _law_piece. -/
namespace K6
open PySem PySem.Spec PyProof.Rows L2
open TL (tl)

theorem sdne {H1 : Hp} {p q D : Addr} {cells : List Int} {T : Nat} (s : Scr H1 p q cells T) (h : H1 D = none) : D ≠ p := fun e => s.freeP h e.symm
section
variable {P : Program} {w : World} {K : PySem.W.Frag} {mg : Str → Option Value} {base : Heap}
def spPiece (K : PySem.W.Frag) : Sp := fun vs H Q _ => ∃ (p q : Addr) (cells : List Int) (T n : Nat), vs = [.ref p, .int (n : Int)] ∧ Scr H p q cells T ∧ T + 100 ≤ 100000 ∧ n ≤ 2 ∧ ∀ H' v pc, Piece.Ok n pc → Dp K H' v pc.dat → Scr H' p q cells (T + 40) → But p H H' → Q v H'
theorem Scr.sqT {H H' : Hp} {p q a : Addr} {cells : List Int} {T : Nat} {xs : List V} (s : Scr H p q cells T) (e : But p H H') (h : SqT K H a xs) : SqT K H' a xs := by
  obtain ⟨ys, hp⟩ := s.ob1
  exact sqT_but hp (noTup_lst _) e h
/-- numbers that a list being made holds -/
def Nums (K : PySem.W.Frag) (H : Hp) (acc : List V) (j : Nat) : Prop := ∃ r : List Num, r.length = j ∧ (∀ q ∈ r, q.Ok) ∧ DpAll K H acc (r.map Num.dat)
theorem Nums.nil {H : Hp} : Nums K H [] 0 := ⟨[], rfl, fun _ h => (List.not_mem_nil h).elim, .nil⟩
theorem Nums.next {H H' : Hp} {p q D : Addr} {cells : List Int} {T : Nat} {acc : List V} {v : V} {j : Nat} {qn : Num} (s : Scr H p q cells T) (e : But p H H') (hD : H' D = some (.lst acc)) (h : Nums K H acc j) (hok : qn.Ok) (hv : Dp K H' v qn.dat) :
    Nums K (upd H' D (.lst (acc ++ [v]))) (acc ++ [v]) (j + 1) := by
  obtain ⟨r, h1, h2, h3⟩ := h
  refine ⟨r ++ [qn], by rw [List.length_append, h1]; rfl, fun q hq => ?_, ?_⟩
  · rcases List.mem_append.mp hq with z | z
    · exact h2 q z
    · obtain rfl : q = qn := by simpa using z
      exact hok
  · rw [List.map_append]
    exact dpAll_app (dpAll_put (nmAll_nums h2) hD (s.dpAll e (nmAll_nums h2) h3)) (dpAll_one (dp_put hok.nm hD hv))
/-- rows that a list holds -/
def Rws (K : PySem.W.Frag) (n : Nat) (H : Hp) (acc : List V) (j : Nat) : Prop := ∃ rs : List (List Num), rs.length = j ∧ (∀ r ∈ rs, r.length = n ∧ ∀ q ∈ r, q.Ok) ∧ DpAll K H acc (rs.map rowD)
theorem rws_nm {n : Nat} {rs : List (List Num)} (h : ∀ r ∈ rs, r.length = n ∧ ∀ q ∈ r, q.Ok) : nmAll (rs.map rowD) = true := by
  rw [nmAll_iff]
  intro d hd
  obtain ⟨r, hr, rfl⟩ := List.mem_map.mp hd
  exact row_nm (h r hr).2
theorem Rws.but {n : Nat} {H H' : Hp} {p q : Addr} {cells : List Int} {T : Nat} {acc : List V} {j : Nat} (s : Scr H p q cells T) (e : But p H H') (h : Rws K n H acc j) : Rws K n H' acc j := by
  obtain ⟨rs, h1, h2, h3⟩ := h
  exact ⟨rs, h1, h2, s.dpAll e (rws_nm h2) h3⟩
theorem Rws.same {n : Nat} {H H' : Hp} {acc : List V} {j : Nat} (e : Same H H') (h : Rws K n H acc j) : Rws K n H' acc j := by
  obtain ⟨rs, h1, h2, h3⟩ := h
  exact ⟨rs, h1, h2, dpAll_same e _ _ h3⟩
theorem Rws.put {n : Nat} {H : Hp} {D : Addr} {acc acc' acc2 : List V} {j : Nat} (hD : H D = some (.lst acc2)) (h : Rws K n H acc j) : Rws K n (upd H D (.lst acc')) acc j := by
  obtain ⟨rs, h1, h2, h3⟩ := h
  exact ⟨rs, h1, h2, dpAll_put (rws_nm h2) hD h3⟩
/-- a row that has been made a tuple, appended -/
theorem Rws.next {n : Nat} {H : Hp} {D : Addr} {acc us : List V} {t : Addr} {j : Nat} (hD : H D = some (.lst acc)) (h : Rws K n H acc j) (hn : Nums K H us n) (ht : SqT K H t us) : Rws K n (upd H D (.lst (acc ++ [V.ref t]))) (acc ++ [V.ref t]) (j + 1) := by
  obtain ⟨rs, h1, h2, h3⟩ := h
  obtain ⟨r, g1, g2, g3⟩ := hn
  have hok : ∀ r' ∈ rs ++ [r], r'.length = n ∧ ∀ q ∈ r', q.Ok := fun r' hr => by
    rcases List.mem_append.mp hr with z | z
    · exact h2 r' z
    · obtain rfl : r' = r := by simpa using z
      exact ⟨g1, g2⟩
  refine ⟨rs ++ [r], by rw [List.length_append, h1]; rfl, hok, ?_⟩
  rw [List.map_append]
  exact dpAll_app (dpAll_put (rws_nm h2) hD h3) (dpAll_one (dp_put (row_nm g2) hD (.tup ht g3)))
theorem Nums.same {H H' : Hp} {acc : List V} {j : Nat} (e : Same H H') (h : Nums K H acc j) : Nums K H' acc j := by
  obtain ⟨r, h1, h2, h3⟩ := h
  exact ⟨r, h1, h2, dpAll_same e _ _ h3⟩
/-- a corner's numbers -/
def Cor (acc : List V) (i : Nat) : Prop := ∃ c : List Int, c.length = i ∧ (∀ x ∈ c, -1000 ≤ x ∧ x ≤ 1000) ∧ acc = c.map V.int
theorem Cor.next {acc : List V} {i : Nat} {x : Int} (h : Cor acc i) (h1 : -1000 ≤ x) (h2 : x ≤ 1000) : Cor (acc ++ [V.int x]) (i + 1) := by
  obtain ⟨c, e1, e2, rfl⟩ := h
  refine ⟨c ++ [x], by rw [List.length_append, e1]; rfl, fun y hy => ?_, by rw [List.map_append]; rfl⟩
  rcases List.mem_append.mp hy with z | z
  · exact e2 y z
  · obtain rfl : y = x := by simpa using z
    exact ⟨h1, h2⟩
theorem cor_nm {c : List Int} (h : ∀ x ∈ c, -1000 ≤ x ∧ x ≤ 1000) : nm (cornerD c) = true := by
  simp only [cornerD, nm]
  rw [nmAll_iff]
  intro d hd
  obtain ⟨x, hx, rfl⟩ := List.mem_map.mp hd
  have := h x hx
  simp only [nm]
  exact decide_eq_true (by omega)
/-- the piece of three parts -/
theorem piece_of {n : Nat} {H : Hp} {t lc lr ls : Addr} {cs rs ss : List V} (ht : H t = some (.tup [V.ref lc, V.ref lr, V.ref ls])) (h1 : SqT K H lc cs) (c : Cor cs n) (h2 : SqT K H lr rs) (r : Rws K n H rs n) (h3 : SqT K H ls ss) (s : Nums K H ss n) : ∃ pc, Piece.Ok n pc ∧ Dp K H (.ref t) pc.dat := by
  obtain ⟨c, c1, c2, rfl⟩ := c
  obtain ⟨rr, r1, r2, r3⟩ := r
  obtain ⟨sv, s1, s2, s3⟩ := s
  exact ⟨⟨c, rr, sv⟩, ⟨c1, c2, r1, r2, s1, s2⟩, .tup (.inl (.inl ht)) (.cons (.tup h1 (dpAll_ints c)) (.cons (.tup h2 r3) (.cons (.tup h3 s3) .nil)))⟩
abbrev NLPiece : List Str := ["_law_scroll_here", "_law_wide", "_law_corner", "_law_rows", "_law_place", "_law_row", "_law_at"]
theorem scLPiece : FnScope NLPiece ["_law_scroll_here", "_law_wide"] (defScope sPiece) := ⟨rfl, rfl, rfl, by decide +kernel, rfl, by decide +kernel, by decide +kernel⟩
theorem ok_piece {f g1 g2 : Addr} (B : Bt mg) (F : Fx K mg "_law_piece" sPiece f) (G1 : Kp P w K mg base 1 "_law_roll_by" g1 spRoll) (G2 : Kp P w K mg base 3 "_law_number" g2 (spNumber K)) : Kp P w K mg base 4 "_law_piece" f (spPiece K) := by
  refine kp_mk F scLPiece (fun vs H Q E h => ?_) (fun _ _ _ _ _ _ us hl => match us, hl with | [_, _], _ => rfl) (fun cdv A outer s H vs Q E hr h => ?_)
  · obtain ⟨p, q, cells, T, n, rfl, _⟩ := h
    rfl
  · obtain ⟨p, q, cells, T, n, rfl, sc, hT, hn, kk⟩ := h
    have nd := scLPiece.nd
    refine ⟨_, pss_cons (ps_set (i := 2) nd rfl (Or.inl rfl) (pe_callTy call_tuple_of (by rfl) B.tuple_ PyProof.Rows.boot_tuple (pa_cons (pe_lc (own := [("_law_place", 4)]) (g := gName 4) (tt := tYes) rfl nd (pi_range1 (by rfl) B.range_ (pa_cons (pv 1) pa_nil)) (blkOk_by (own := [("_law_place", 4)]) (N := NLPiece) (sc := defScope sPiece) (by decide +kernel))
        (fun _ _ _ _ _ => pg_name (i := 4) nd rfl (Or.inl rfl)) (fun _ _ _ _ _ => pts_nil) (fun _ _ _ _ _ => pe_op op_sub (pe_k G1 hr (pa_cons (pv 0) (pa_cons pe_int pa_nil))) pe_int)) pa_nil)))
      (pss_cons (ps_set (i := 3) nd rfl (Or.inl rfl) (pe_lst pa_nil))
      (pss_cons (ps_for PassesOwn.never rfl (pi_range1 (by rfl) B.range_ (pa_cons (pv 1) pa_nil)) (pg_name (i := 4) nd rfl (Or.inr rfl))
        (pss_cons (ps_setLc (i := 5) (own := [("_law_at", 6)]) (g := gName 6) (tt := tYes) rfl nd rfl rfl rfl (pi_range1 (by rfl) B.range_ (pa_cons (pv 1) pa_nil)) (blkOk_by (own := [("_law_at", 6)]) (N := NLPiece) (sc := defScope sPiece) (by decide +kernel))
          (fun _ _ _ _ _ => pg_name (i := 6) nd rfl (Or.inl rfl)) (fun _ _ _ _ _ => pts_nil) (fun _ _ _ _ _ => pe_ifExp (pt_cmpR op_gt (pe_k G1 hr (pa_cons (pv 0) (pa_cons pe_int pa_nil))) pe_int (nomark _)) (pe_k G2 hr (pa_cons (pv 0) pa_nil)) (pe_callTy call_int1 (by rfl) B.int_ PyProof.Rows.boot_int (pa_cons (pe_cmpR op_eq (pv 6) (pv 4) (nomark _)) pa_nil))))
        (pss_one (ps_expr (pe_bm PySem.F.plainAttrs_list PySem.F.slot_list_append PySem.F.type_list_append mt_append (pv 3) (pa_cons (pe_callTy call_tuple_of (by rfl) B.tuple_ PyProof.Rows.boot_tuple (pa_cons (pv 5) pa_nil)) pa_nil))))))
      (pss_one (ps_ret (pe_tup (pa_cons (pv 2) (pa_cons (pe_callTy call_tuple_of (by rfl) B.tuple_ PyProof.Rows.boot_tuple (pa_cons (pv 3) pa_nil)) (pa_cons (pe_callTy call_tuple_of (by rfl) B.tuple_ PyProof.Rows.boot_tuple (pa_cons (pe_lc (own := [("_law_place", 4)]) (g := gName 4) (tt := tYes) rfl nd (pi_range1 (by rfl) B.range_ (pa_cons (pv 1) pa_nil)) (blkOk_by (own := [("_law_place", 4)]) (N := NLPiece) (sc := defScope sPiece) (by decide +kernel))
        (fun _ _ _ _ _ => pg_name (i := 4) nd rfl (Or.inl rfl)) (fun _ _ _ _ _ => pts_nil) (fun _ _ _ _ _ => pe_k G2 hr (pa_cons (pv 0) pa_nil))) pa_nil)) pa_nil)))))))), ?_⟩
    -- the corner
    refine ⟨_, rfl, (n : Int), rfl, (rng_ok (by omega)).1, (rng_ok (by omega)).2, fun D hD => lc_map (walk_range (n := (n : Int).toNat)) (small_lt (by rw [Int.toNat_natCast]; omega)) (fun i acc H2 => Scr H2 p q cells (T + i) ∧ But p H H2 ∧ Cor acc i) ⟨sc.put (sc.freeP hD) (sc.freeQ hD), (But.refl p H).new hD, [], rfl, fun _ h => (List.not_mem_nil h).elim, rfl⟩
      (fun _ _ _ _ _ _ => True.intro) ?_ ?_⟩
    · rintro i acc x H2 H2' Post hi ⟨sc2, b2, e2⟩ hDD hlen ⟨e, _⟩ post
      subst e
      rw [Int.toNat_natCast] at hi
      exact ⟨rfl, _, rfl, p, q, cells, T + i, 5, rfl, sc2, by omega, by omega, by omega, fun H3 r hr3 sc3 b3 => ⟨_, _, rfl, rfl, post _ _ (b3 _ _ hDD (sdne sc hD)) ⟨sc3.put (sc.freeP hD) (sc.freeQ hD), but_put hD (b2.trans b3), e2.next (by omega) (by omega)⟩⟩⟩
    rintro acc H2 ⟨sc2, b2, e2⟩ hDD hlen
    rw [Int.toNat_natCast] at sc2 e2
    refine ⟨D, acc, rfl, .inl ⟨SqL.of hDD, fun lc hlc => ?_⟩⟩
    have scc := sc2.put (o := .tup acc) (sc2.freeP hlc) (sc2.freeQ hlc)
    have bc : But p H (upd H2 lc (.tup acc)) := b2.new hlc
    have dc : SqT K (upd H2 lc (.tup acc)) lc acc := .inl (.inl upd_same)
    generalize upd H2 lc (.tup acc) = H3 at scc bc dc ⊢
    -- rows = []
    refine ⟨by show 0 ≤ sizeLine; omega, fun lr hlr => ?_⟩
    have sc3 := scc.put (o := .lst []) (scc.freeP hlr) (scc.freeQ hlr)
    have b3 : But p H3 (upd H3 lr (.lst [])) := (But.refl p H3).new hlr
    have e3 : (upd H3 lr (.lst [])) lr = some (.lst []) := upd_same
    have nlr : lr ≠ p := sdne scc hlr
    have plr : p ≠ lr := scc.freeP hlr
    have qlr : q ≠ lr := scc.freeQ hlr
    generalize upd H3 lr (.lst []) = H4 at sc3 b3 e3 ⊢
    refine ⟨_, rfl, (n : Int), rfl, (rng_ok (by omega)).1, (rng_ok (by omega)).2, for_it (walk_range (n := (n : Int).toNat)) (fun i σ' H' => (∃ x y, σ' = [some (.ref p), some (.int (n : Int)), some (.ref lc), some (.ref lr), x, y, none]) ∧ Scr H' p q cells (T + 2 + 10 * i) ∧ But p H3 H' ∧ ∃ acc, H' lr = some (.lst acc) ∧ Rws K n H' acc i)
      ⟨⟨_, _, rfl⟩, sc3.mono (by omega), b3, [], e3, [], rfl, fun _ h => (List.not_mem_nil h).elim, .nil⟩ (fun _ _ _ _ _ => True.intro) ?_ ?_⟩
    · rintro i x σ' H5 H5' hi ⟨⟨x0, y0, rfl⟩, sc5, b5, acc5, e5, r5⟩ ⟨e, ex⟩
      subst e
      subst ex
      rw [Int.toNat_natCast] at hi
      refine ⟨_, rfl, (n : Int), rfl, (rng_ok (by omega)).1, (rng_ok (by omega)).2, fun D3 hD3 => lc_map (walk_range (n := (n : Int).toNat)) (small_lt (by rw [Int.toNat_natCast]; omega)) (fun j acc H6 => Scr H6 p q cells (T + 2 + 10 * i + 5 * j) ∧ But p H5' H6 ∧ Nums K H6 acc j)
        ⟨sc5.put (sc5.freeP hD3) (sc5.freeQ hD3), (But.refl p H5').new hD3, Nums.nil⟩ (fun _ _ _ _ _ _ => True.intro) ?_ ?_⟩
      · rintro j acc6 x6 H6 H6' Post hj ⟨sc6, b6, n6⟩ hDD6 hlen6 ⟨e, ex⟩ post
        subst e
        subst ex
        rw [Int.toNat_natCast] at hj
        refine ⟨rfl, _, rfl, p, q, cells, _, 3, rfl, sc6, by omega, by omega, by omega, fun H7 r hr7 sc7 b7 => ⟨_, _, rfl, rfl, ?_⟩⟩
        by_cases hr0 : (0 : Int) < (r : Int)
        · refine ⟨true, congrArg V.bl (decide_eq_true hr0), iteT ⟨_, rfl, p, q, cells, _, rfl, sc7, by omega, fun H8 v qn hok hv sc8 b8 => ?_⟩⟩
          have hDD8 := (b7.trans b8) _ _ hDD6 (sdne sc5 hD3)
          exact post _ _ hDD8 ⟨(sc8.put (sc5.freeP hD3) (sc5.freeQ hD3)).mono (by omega), but_put hD3 (b6.trans (b7.trans b8)), n6.next sc6 (b7.trans b8) hDD8 hok hv⟩
        · refine ⟨false, congrArg V.bl (decide_eq_false hr0), iteF ⟨_, rfl, _, rfl, rfl, .inr ⟨_, rfl, ?_⟩⟩⟩
          have hDD7 := b7 _ _ hDD6 (sdne sc5 hD3)
          refine post _ _ hDD7 ⟨(sc7.put (sc5.freeP hD3) (sc5.freeQ hD3)).mono (by omega), but_put hD3 (b6.trans b7), n6.next (qn := .whole _) sc6 b7 hDD7 ?_ (.int _)⟩
          show Int.natAbs _ ≤ 1000000
          split <;> decide
      · rintro acc6 H6 ⟨sc6, b6, n6⟩ hDD6 hlen6
        rw [Int.toNat_natCast] at sc6 n6
        have h6 : H6 lr = some (.lst acc5) := b6 _ _ e5 nlr
        refine ⟨_, rfl, .inl ⟨rfl, _, SqL.of h6⟩, _, rfl, D3, acc6, rfl, .inl ⟨SqL.of hDD6, fun lt hlt => ?_⟩⟩
        have s7 : Same H6 (upd H6 lt (.tup acc6)) := Same.one hlt
        have h7 := s7 _ _ h6
        have hsz : acc5.length < sizeLine := by
          obtain ⟨rs, z1, _, z3⟩ := r5
          have := dpAll_len z3
          rw [List.length_map, z1] at this
          exact small_lt (by omega)
        refine ⟨lr, acc5, V.ref lt, rfl, rfl, h7, hsz, ⟨_, _, rfl⟩, ?_, ?_, ?_⟩
        · exact ((sc6.same s7).put plr qlr).mono (by omega)
        · exact but_put hlr (b5.trans (b6.trans (But.of s7)))
        · exact ⟨_, upd_same, Rws.next h7 ((r5.but sc5 b6).same s7) (n6.same s7) (.inl (.inl upd_same))⟩
    · rintro σ' H5 ⟨⟨x0, y0, rfl⟩, sc5, b5, acc5, e5, r5⟩
      rw [Int.toNat_natCast] at sc5 r5
      refine ⟨_, rfl, _, rfl, lr, acc5, rfl, .inl ⟨SqL.of e5, fun l2 hl2 => ?_⟩⟩
      have s6 : Same H5 (upd H5 l2 (.tup acc5)) := Same.one hl2
      have b6 : But p H3 (upd H5 l2 (.tup acc5)) := b5.new hl2
      have sc6 := (sc5.same s6).mono (show T + 2 + 10 * n ≤ T + 22 by omega)
      have q6 : SqT K (upd H5 l2 (.tup acc5)) l2 acc5 := .inl (.inl upd_same)
      have r6 := r5.same s6
      generalize upd H5 l2 (.tup acc5) = H6 at s6 b6 sc6 q6 r6 ⊢
      refine ⟨_, rfl, (n : Int), rfl, (rng_ok (by omega)).1, (rng_ok (by omega)).2, fun D4 hD4 => lc_map (walk_range (n := (n : Int).toNat)) (small_lt (by rw [Int.toNat_natCast]; omega)) (fun j acc H7 => Scr H7 p q cells (T + 22 + 4 * j) ∧ But p H6 H7 ∧ Nums K H7 acc j)
        ⟨sc6.put (sc6.freeP hD4) (sc6.freeQ hD4), (But.refl p H6).new hD4, Nums.nil⟩ (fun _ _ _ _ _ _ => True.intro) ?_ ?_⟩
      · rintro j acc7 x7 H7 H7' Post hj ⟨sc7, b7, n7⟩ hDD7 hlen7 ⟨e, ex⟩ post
        subst e
        rw [Int.toNat_natCast] at hj
        refine ⟨rfl, _, rfl, p, q, cells, _, rfl, sc7, by omega, fun H8 v qn hok hv sc8 b8 => ?_⟩
        have hDD8 := b8 _ _ hDD7 (sdne sc6 hD4)
        exact post _ _ hDD8 ⟨(sc8.put (sc6.freeP hD4) (sc6.freeQ hD4)).mono (by omega), but_put hD4 (b7.trans b8), n7.next sc7 b8 hDD8 hok hv⟩
      · rintro acc7 H7 ⟨sc7, b7, n7⟩ hDD7 hlen7
        rw [Int.toNat_natCast] at sc7 n7
        refine ⟨D4, acc7, rfl, .inl ⟨SqL.of hDD7, fun ls hls => ⟨by show 3 ≤ sizeLine; decide, fun t ht => ?_⟩⟩⟩
        have s8 : Same H7 (upd H7 ls (.tup acc7)) := Same.one hls
        have s9 : Same (upd H7 ls (.tup acc7)) (upd (upd H7 ls (.tup acc7)) t (.tup [V.ref lc, V.ref l2, V.ref ls])) := Same.one ht
        have s89 := Same.trans s8 s9
        have b69 := b7.trans (But.of s89)
        obtain ⟨pc, hpc, hd⟩ := piece_of (K := K) (n := n) (H := upd (upd H7 ls (.tup acc7)) t (.tup [V.ref lc, V.ref l2, V.ref ls])) upd_same (scc.sqT (b6.trans b69) dc) e2 (sc6.sqT b69 q6) (r6.but sc6 b69) (sqT_same s9 (.inl (.inl upd_same))) (n7.same s89)
        exact kk _ _ pc hpc hd ((sc7.same s89).mono (by omega)) ((bc.trans b6).trans b69)
end
end K6

set_option maxRecDepth 100000
set_option maxHeartbeats 4000000
/-! KD6d: _law_great. -/
namespace K6
open PySem PySem.Spec PyProof.Rows L2
open TL (tl)

section
variable {P : Program} {w : World} {K : PySem.W.Frag} {mg : Str → Option Value} {base : Heap}
abbrev NGreat : List Str := ["_law_scroll_here", "_law_wide", "_law_some", "_law_corner", "_law_rows", "_law_place", "_law_at"]
theorem scGreat : FnScope NGreat ["_law_scroll_here", "_law_wide"] (defScope sGreat) := ⟨rfl, rfl, rfl, by decide +kernel, rfl, by decide +kernel, by decide +kernel⟩
/-- each of these is a number -/
def Alln (K : PySem.W.Frag) (H : Hp) (xs : List V) : Prop := ∀ v ∈ xs, ∃ qn, Num.Ok qn ∧ Dp K H v qn.dat
theorem Alln.but {H H' : Hp} {p q : Addr} {cells : List Int} {T : Nat} {xs : List V} (s : Scr H p q cells T) (e : But p H H') (h : Alln K H xs) : Alln K H' xs := fun v hv => by
  obtain ⟨qn, h1, h2⟩ := h v hv
  exact ⟨qn, h1, s.dp e h1.nm h2⟩
theorem ok_great {f g1 : Addr} (B : Bt mg) (F : Fx K mg "_law_great" sGreat f) (G1 : Kp P w K mg base 2 "_law_pick" g1 spPick) : Kp P w K mg base 3 "_law_great" f (spPiece K) := by
  refine kp_mk F scGreat (fun vs H Q E h => ?_) (fun _ _ _ _ _ _ us hl => match us, hl with | [_, _], _ => rfl) (fun cdv A outer s H vs Q E hr h => ?_)
  · obtain ⟨p, q, cells, T, n, rfl, _⟩ := h
    rfl
  · obtain ⟨p, q, cells, T, n, rfl, sc0, hT, hn, kk⟩ := h
    have nd := scGreat.nd
    refine ⟨_, pss_cons (ps_set (i := 2) nd rfl (Or.inr rfl) (pe_lst (pa_cons pe_int (pa_cons (pe_un un_neg pe_int) (pa_cons (pe_tup (pa_cons pe_int (pa_cons pe_int pa_nil))) (pa_cons (pe_tup (pa_cons pe_int (pa_cons pe_int pa_nil))) (pa_cons (pe_tup (pa_cons (pe_un un_neg pe_int) (pa_cons pe_int pa_nil))) (pa_cons pe_int pa_nil))))))))
      (pss_cons (ps_set (i := 3) nd rfl (Or.inl rfl) (pe_callTy call_tuple_of (by rfl) B.tuple_ PyProof.Rows.boot_tuple (pa_cons (pe_lc (own := [("_law_place", 5)]) (g := gName 5) (tt := tYes) rfl nd (pi_range1 (by rfl) B.range_ (pa_cons (pv 1) pa_nil)) (blkOk_by (own := [("_law_place", 5)]) (N := NGreat) (sc := defScope sGreat) (by decide +kernel))
        (fun _ _ _ _ _ => pg_name (i := 5) nd rfl (Or.inl rfl)) (fun _ _ _ _ _ => pts_nil) (fun _ _ _ _ _ => pe_k G1 hr (pa_cons (pv 0) (pa_cons (pe_lst (pa_cons pe_int (pa_cons (pe_un un_neg pe_int) (pa_cons pe_int pa_nil)))) pa_nil)))) pa_nil)))
      (pss_cons (ps_set (i := 4) nd rfl (Or.inl rfl) (pe_lst pa_nil))
      (pss_cons (ps_for PassesOwn.never rfl (pi_range1 (by rfl) B.range_ (pa_cons (pv 1) pa_nil)) (pg_name (i := 5) nd rfl (Or.inl rfl))
        (pss_one (ps_expr (pe_bm PySem.F.plainAttrs_list PySem.F.slot_list_append PySem.F.type_list_append mt_append (pv 4) (pa_cons (pe_callTy call_tuple_of (by rfl) B.tuple_ PyProof.Rows.boot_tuple (pa_cons (pe_lc (own := [("_law_at", 6)]) (g := gName 6) (tt := tYes) rfl nd (pi_range1 (by rfl) B.range_ (pa_cons (pv 1) pa_nil)) (blkOk_by (own := [("_law_at", 6)]) (N := NGreat) (sc := defScope sGreat) (by decide +kernel))
          (fun _ _ _ _ _ => pg_name (i := 6) nd rfl (Or.inl rfl)) (fun _ _ _ _ _ => pts_nil) (fun _ _ _ _ _ => pe_k G1 hr (pa_cons (pv 0) (pa_cons (pv 2) pa_nil)))) pa_nil)) pa_nil)))))
      (pss_one (ps_ret (pe_tup (pa_cons (pv 3) (pa_cons (pe_callTy call_tuple_of (by rfl) B.tuple_ PyProof.Rows.boot_tuple (pa_cons (pv 4) pa_nil)) (pa_cons (pe_callTy call_tuple_of (by rfl) B.tuple_ PyProof.Rows.boot_tuple (pa_cons (pe_lc (own := [("_law_place", 5)]) (g := gName 5) (tt := tYes) rfl nd (pi_range1 (by rfl) B.range_ (pa_cons (pv 1) pa_nil)) (blkOk_by (own := [("_law_place", 5)]) (N := NGreat) (sc := defScope sGreat) (by decide +kernel))
        (fun _ _ _ _ _ => pg_name (i := 5) nd rfl (Or.inl rfl)) (fun _ _ _ _ _ => pts_nil) (fun _ _ _ _ _ => pe_k G1 hr (pa_cons (pv 0) (pa_cons (pv 2) pa_nil)))) pa_nil)) pa_nil))))))))), ?_⟩
    -- some numbers
    refine ⟨1000000, rfl, by show 2 ≤ sizeLine; decide, fun t1 ht1 => ⟨by show 2 ≤ sizeLine; decide, fun t2 ht2 => ⟨7, rfl, by show 2 ≤ sizeLine; decide, fun t3 ht3 => ⟨by show 6 ≤ sizeLine; decide, fun lm hlm => ?_⟩⟩⟩⟩
    have z1 : Same H _ := Same.one (o := .tup [V.int 999999, V.int 1000]) ht1
    have z2 : Same _ _ := Same.one (o := .tup [V.int 1, V.int 1000]) ht2
    have z3 : Same _ _ := Same.one (o := .tup [V.int (-7), V.int 999]) ht3
    have z4 : Same _ _ := Same.one (o := .lst [V.int 1000000, V.int (-1000000), V.ref t1, V.ref t2, V.ref t3, V.int 0]) hlm
    have zA := Same.trans (Same.trans (Same.trans z1 z2) z3) z4
    have e1 := (Same.trans (Same.trans z2 z3) z4) t1 _ upd_same
    have e2 := (Same.trans z3 z4) t2 _ upd_same
    have e3 := z4 t3 _ upd_same
    have nums : Alln K (upd (upd (upd (upd H t1 (.tup [V.int 999999, V.int 1000])) t2 (.tup [V.int 1, V.int 1000])) t3 (.tup [V.int (-7), V.int 999])) lm (.lst [V.int 1000000, V.int (-1000000), V.ref t1, V.ref t2, V.ref t3, V.int 0])) [V.int 1000000, V.int (-1000000), V.ref t1, V.ref t2, V.ref t3, V.int 0] := fun v hv => by
      simp only [List.mem_cons, List.not_mem_nil, or_false] at hv
      rcases hv with rfl | rfl | rfl | rfl | rfl | rfl
      · exact ⟨.whole 1000000, by show (1000000 : Int).natAbs ≤ 1000000; decide, .int _⟩
      · exact ⟨.whole (-1000000), by show (-1000000 : Int).natAbs ≤ 1000000; decide, .int _⟩
      · exact ⟨.frac 999999 1000, ⟨by decide, by decide, by decide, by decide⟩, num_frac (.inl (.inl e1))⟩
      · exact ⟨.frac 1 1000, ⟨by decide, by decide, by decide, by decide⟩, num_frac (.inl (.inl e2))⟩
      · exact ⟨.frac (-7) 999, ⟨by decide, by decide, by decide, by decide⟩, num_frac (.inl (.inl e3))⟩
      · exact ⟨.whole 0, by show (0 : Int).natAbs ≤ 1000000; decide, .int _⟩
    have hsome : (upd (upd (upd (upd H t1 (.tup [V.int 999999, V.int 1000])) t2 (.tup [V.int 1, V.int 1000])) t3 (.tup [V.int (-7), V.int 999])) lm (.lst [V.int 1000000, V.int (-1000000), V.ref t1, V.ref t2, V.ref t3, V.int 0])) lm = some (.lst [V.int 1000000, V.int (-1000000), V.ref t1, V.ref t2, V.ref t3, V.int 0]) := upd_same
    have nlm : lm ≠ p := sdne (sc0.same (Same.trans (Same.trans z1 z2) z3)) hlm
    have sc := sc0.same zA
    have bz : But p H _ := But.of zA
    generalize upd (upd (upd (upd H t1 (.tup [V.int 999999, V.int 1000])) t2 (.tup [V.int 1, V.int 1000])) t3 (.tup [V.int (-7), V.int 999])) lm (.lst [V.int 1000000, V.int (-1000000), V.ref t1, V.ref t2, V.ref t3, V.int 0]) = H0 at nums hsome sc bz ⊢
    have six : ([V.int 1000000, V.int (-1000000), V.ref t1, V.ref t2, V.ref t3, V.int 0] : List V).length = 6 := rfl
    generalize ([V.int 1000000, V.int (-1000000), V.ref t1, V.ref t2, V.ref t3, V.int 0] : List V) = some6 at nums hsome six
    -- the corner
    refine ⟨_, rfl, (n : Int), rfl, (rng_ok (by omega)).1, (rng_ok (by omega)).2, fun D hD => lc_map (walk_range (n := (n : Int).toNat)) (small_lt (by rw [Int.toNat_natCast]; omega)) (fun i acc H2 => Scr H2 p q cells (T + i) ∧ But p H0 H2 ∧ Cor acc i) ⟨sc.put (sc.freeP hD) (sc.freeQ hD), (But.refl p H0).new hD, [], rfl, fun _ h => (List.not_mem_nil h).elim, rfl⟩
      (fun _ _ _ _ _ _ => True.intro) ?_ ?_⟩
    · rintro i acc x H2 H2' Post hi ⟨sc2, b2, e2⟩ hDD hlen ⟨e, _⟩ post
      subst e
      rw [Int.toNat_natCast] at hi
      refine ⟨rfl, _, rfl, 1000, rfl, by show 3 ≤ sizeLine; decide, fun l3 hl3 => ?_⟩
      have s3 : Same H2' (upd H2' l3 (.lst [V.int 1000, V.int (-1000), V.int 999])) := Same.one hl3
      refine ⟨p, q, l3, cells, T + i, _, rfl, sc2.same s3, by omega, upd_same, sdne sc2 hl3, by show 1 ≤ 3; decide, by show 3 ≤ 1000; decide, fun H3 v hv sc3 b3 => ?_⟩
      have hDD3 := b3 _ _ (s3 _ _ hDD) (sdne sc hD)
      have bb := but_put (D := D) (o := .lst (acc ++ [v])) hD ((b2.trans (But.of s3)).trans b3)
      have sc4 : Scr (upd H3 D (.lst (acc ++ [v]))) p q cells (T + (i + 1)) := sc3.put (sc.freeP hD) (sc.freeQ hD)
      simp only [List.mem_cons, List.not_mem_nil, or_false] at hv
      rcases hv with rfl | rfl | rfl
      · exact post _ _ hDD3 ⟨sc4, bb, e2.next (by omega) (by omega)⟩
      · exact post _ _ hDD3 ⟨sc4, bb, e2.next (by omega) (by omega)⟩
      · exact post _ _ hDD3 ⟨sc4, bb, e2.next (by omega) (by omega)⟩
    rintro acc H2 ⟨sc2, b2, e2⟩ hDD hlen
    rw [Int.toNat_natCast] at sc2 e2
    refine ⟨D, acc, rfl, .inl ⟨SqL.of hDD, fun lc hlc => ?_⟩⟩
    have scc := sc2.put (o := .tup acc) (sc2.freeP hlc) (sc2.freeQ hlc)
    have bc : But p H0 (upd H2 lc (.tup acc)) := b2.new hlc
    have dc : SqT K (upd H2 lc (.tup acc)) lc acc := .inl (.inl upd_same)
    generalize upd H2 lc (.tup acc) = H3 at scc bc dc ⊢
    -- rows = []
    refine ⟨by show 0 ≤ sizeLine; omega, fun lr hlr => ?_⟩
    have sc3 := scc.put (o := .lst []) (scc.freeP hlr) (scc.freeQ hlr)
    have b3 : But p H3 (upd H3 lr (.lst [])) := (But.refl p H3).new hlr
    have e3 : (upd H3 lr (.lst [])) lr = some (.lst []) := upd_same
    have nlr : lr ≠ p := sdne scc hlr
    have plr : p ≠ lr := scc.freeP hlr
    have qlr : q ≠ lr := scc.freeQ hlr
    generalize upd H3 lr (.lst []) = H4 at sc3 b3 e3 ⊢
    refine ⟨_, rfl, (n : Int), rfl, (rng_ok (by omega)).1, (rng_ok (by omega)).2, for_it (walk_range (n := (n : Int).toNat)) (fun i σ' H' => (∃ x, σ' = [some (.ref p), some (.int (n : Int)), some (.ref lm), some (.ref lc), some (.ref lr), x, none]) ∧ Scr H' p q cells (T + 2 + 10 * i) ∧ But p H3 H' ∧ ∃ acc, H' lr = some (.lst acc) ∧ Rws K n H' acc i)
      ⟨⟨_, rfl⟩, sc3.mono (by omega), b3, [], e3, [], rfl, fun _ h => (List.not_mem_nil h).elim, .nil⟩ (fun _ _ _ _ _ => True.intro) ?_ ?_⟩
    · rintro i x σ' H5 H5' hi ⟨⟨x0, rfl⟩, sc5, b5, acc5, e5, r5⟩ ⟨e, ex⟩
      subst e
      subst ex
      rw [Int.toNat_natCast] at hi
      have b05 := bc.trans b5
      refine ⟨_, rfl, .inl ⟨rfl, _, SqL.of e5⟩, _, rfl, (n : Int), rfl, (rng_ok (by omega)).1, (rng_ok (by omega)).2, fun D3 hD3 => lc_map (walk_range (n := (n : Int).toNat)) (small_lt (by rw [Int.toNat_natCast]; omega)) (fun j acc H6 => Scr H6 p q cells (T + 2 + 10 * i + 5 * j) ∧ But p H5' H6 ∧ Nums K H6 acc j)
        ⟨sc5.put (sc5.freeP hD3) (sc5.freeQ hD3), (But.refl p H5').new hD3, Nums.nil⟩ (fun _ _ _ _ _ _ => True.intro) ?_ ?_⟩
      · rintro j acc6 x6 H6 H6' Post hj ⟨sc6, b6, n6⟩ hDD6 hlen6 ⟨e, ex⟩ post
        subst e
        subst ex
        rw [Int.toNat_natCast] at hj
        refine ⟨rfl, _, rfl, _, rfl, p, q, lm, cells, _, some6, rfl, sc6, by omega, (b05.trans b6) _ _ hsome nlm, nlm, by omega, by omega, fun H8 v hv sc8 b8 => ?_⟩
        have hDD8 := b8 _ _ hDD6 (sdne sc5 hD3)
        obtain ⟨qn, hok, hvd⟩ := nums v hv
        exact post _ _ hDD8 ⟨(sc8.put (sc5.freeP hD3) (sc5.freeQ hD3)).mono (by omega), but_put hD3 (b6.trans b8), n6.next sc6 b8 hDD8 hok (sc.dp ((b05.trans b6).trans b8) hok.nm hvd)⟩
      · rintro acc6 H6 ⟨sc6, b6, n6⟩ hDD6 hlen6
        rw [Int.toNat_natCast] at sc6 n6
        have h6 : H6 lr = some (.lst acc5) := b6 _ _ e5 nlr
        refine ⟨D3, acc6, rfl, .inl ⟨SqL.of hDD6, fun lt hlt => ?_⟩⟩
        have s7 : Same H6 (upd H6 lt (.tup acc6)) := Same.one hlt
        have h7 := s7 _ _ h6
        have hsz : acc5.length < sizeLine := by
          obtain ⟨rs, z1, _, z3⟩ := r5
          have := dpAll_len z3
          rw [List.length_map, z1] at this
          exact small_lt (by omega)
        refine ⟨lr, acc5, V.ref lt, rfl, rfl, h7, hsz, ⟨_, rfl⟩, ?_, ?_, ?_⟩
        · exact ((sc6.same s7).put plr qlr).mono (by omega)
        · exact but_put hlr (b5.trans (b6.trans (But.of s7)))
        · exact ⟨_, upd_same, Rws.next h7 ((r5.but sc5 b6).same s7) (n6.same s7) (.inl (.inl upd_same))⟩
    · rintro σ' H5 ⟨⟨x0, rfl⟩, sc5, b5, acc5, e5, r5⟩
      rw [Int.toNat_natCast] at sc5 r5
      refine ⟨_, rfl, _, rfl, lr, acc5, rfl, .inl ⟨SqL.of e5, fun l2 hl2 => ?_⟩⟩
      have s6 : Same H5 (upd H5 l2 (.tup acc5)) := Same.one hl2
      have b6 : But p H3 (upd H5 l2 (.tup acc5)) := b5.new hl2
      have sc6 := (sc5.same s6).mono (show T + 2 + 10 * n ≤ T + 22 by omega)
      have q6 : SqT K (upd H5 l2 (.tup acc5)) l2 acc5 := .inl (.inl upd_same)
      have r6 := r5.same s6
      generalize upd H5 l2 (.tup acc5) = H6 at s6 b6 sc6 q6 r6 ⊢
      have b06 := bc.trans b6
      refine ⟨_, rfl, (n : Int), rfl, (rng_ok (by omega)).1, (rng_ok (by omega)).2, fun D4 hD4 => lc_map (walk_range (n := (n : Int).toNat)) (small_lt (by rw [Int.toNat_natCast]; omega)) (fun j acc H7 => Scr H7 p q cells (T + 22 + 4 * j) ∧ But p H6 H7 ∧ Nums K H7 acc j)
        ⟨sc6.put (sc6.freeP hD4) (sc6.freeQ hD4), (But.refl p H6).new hD4, Nums.nil⟩ (fun _ _ _ _ _ _ => True.intro) ?_ ?_⟩
      · rintro j acc7 x7 H7 H7' Post hj ⟨sc7, b7, n7⟩ hDD7 hlen7 ⟨e, ex⟩ post
        subst e
        rw [Int.toNat_natCast] at hj
        refine ⟨rfl, _, rfl, _, rfl, p, q, lm, cells, _, some6, rfl, sc7, by omega, (b06.trans b7) _ _ hsome nlm, nlm, by omega, by omega, fun H8 v hv sc8 b8 => ?_⟩
        have hDD8 := b8 _ _ hDD7 (sdne sc6 hD4)
        obtain ⟨qn, hok, hvd⟩ := nums v hv
        exact post _ _ hDD8 ⟨(sc8.put (sc6.freeP hD4) (sc6.freeQ hD4)).mono (by omega), but_put hD4 (b7.trans b8), n7.next sc7 b8 hDD8 hok (sc.dp ((b06.trans b7).trans b8) hok.nm hvd)⟩
      · rintro acc7 H7 ⟨sc7, b7, n7⟩ hDD7 hlen7
        rw [Int.toNat_natCast] at sc7 n7
        refine ⟨D4, acc7, rfl, .inl ⟨SqL.of hDD7, fun ls hls => ⟨by show 3 ≤ sizeLine; decide, fun t ht => ?_⟩⟩⟩
        have s8 : Same H7 (upd H7 ls (.tup acc7)) := Same.one hls
        have s9 : Same (upd H7 ls (.tup acc7)) (upd (upd H7 ls (.tup acc7)) t (.tup [V.ref lc, V.ref l2, V.ref ls])) := Same.one ht
        have s89 := Same.trans s8 s9
        have b69 := b7.trans (But.of s89)
        obtain ⟨pc, hpc, hd⟩ := piece_of (K := K) (n := n) (H := upd (upd H7 ls (.tup acc7)) t (.tup [V.ref lc, V.ref l2, V.ref ls])) upd_same (scc.sqT (b6.trans b69) dc) e2 (sc6.sqT b69 q6) (r6.but sc6 b69) (sqT_same s9 (.inl (.inl upd_same))) (n7.same s89)
        exact kk _ _ pc hpc hd ((sc7.same s89).mono (by omega)) ((bz.trans (bc.trans b6)).trans b69)
end
end K6

set_option maxRecDepth 100000
set_option maxHeartbeats 4000000
/-! KD6e: _law_pieces, _law_text. -/
namespace K6
open PySem PySem.Spec PyProof.Rows L2
open TL (tl)

section
variable {P : Program} {w : World} {K : PySem.W.Frag} {mg : Str → Option Value} {base : Heap}
def spPieces (K : PySem.W.Frag) : Sp := fun vs H Q _ => ∃ (p q : Addr) (cells : List Int) (T n m : Nat), vs = [.ref p, .int (n : Int), .int (m : Int)] ∧ Scr H p q cells T ∧ T + 40 * m + 100 ≤ 100000 ∧ n ≤ 2 ∧ 1 ≤ m ∧ m ≤ 60 ∧
  ∀ H' l acc ps, H l = none → H' l = some (.lst acc) → DpAll K H' acc (dats ps) → (∀ q ∈ ps, Piece.Ok n q) → ps.Nodup → 1 ≤ ps.length → ps.length ≤ m → Scr H' p q cells (T + 40 * m) → But p H H' → Q (.ref l) H'
abbrev NPieces : List Str := ["_law_scroll_here", "_law_wide", "_law_many", "_law_found", "_law_turn", "_law_piece_here"]
theorem scPieces : FnScope NPieces ["_law_scroll_here", "_law_wide", "_law_many"] (defScope sPieces) := ⟨rfl, rfl, rfl, by decide +kernel, rfl, by decide +kernel, by decide +kernel⟩
theorem ok_pieces {f g1 : Addr} (B : Bt mg) (F : Fx K mg "_law_pieces" sPieces f) (G1 : Kp P w K mg base 4 "_law_piece" g1 (spPiece K)) : Kp P w K mg base 5 "_law_pieces" f (spPieces K) := by
  refine kp_mk F scPieces (fun vs H Q E h => ?_) (fun _ _ _ _ _ _ us hl => match us, hl with | [_, _, _], _ => rfl) (fun cdv A outer s H vs Q E hr h => ?_)
  · obtain ⟨p, q, cells, T, n, m, rfl, _⟩ := h
    rfl
  · obtain ⟨p, q, cells, T, n, m, rfl, sc, hT, hn, hm1, hm, kk⟩ := h
    have nd := scPieces.nd
    have hu : (A.deeper (envOfC "_law_pieces" (defScope sPieces) s.heap.objs.size f cdv)).units + 65 < cLine := by have := hr.un; omega
    refine ⟨_, pss_cons (ps_set (i := 3) nd rfl (Or.inl rfl) (pe_lst pa_nil))
      (pss_cons (ps_for PassesOwn.never rfl (pi_range1 (by rfl) B.range_ (pa_cons (pv 2) pa_nil)) (pg_name (i := 4) nd rfl (Or.inl rfl))
        (pss_cons (ps_set (i := 5) nd rfl (Or.inl rfl) (pe_k G1 hr (pa_cons (pv 0) (pa_cons (pv 1) pa_nil))))
        (pss_one (ps_if (pt_cmpR (op_notInD hu) (pv 5) (pv 3) (by rfl)) (pss_one (ps_expr (pe_bm PySem.F.plainAttrs_list PySem.F.slot_list_append PySem.F.type_list_append mt_append (pv 3) (pa_cons (pv 5) pa_nil)))) pss_nil))))
      (pss_one (ps_ret (pv 3)))), ?_⟩
    refine ⟨by show 0 ≤ sizeLine; omega, fun lf hlf => ?_⟩
    have sc1 := sc.put (o := .lst []) (sc.freeP hlf) (sc.freeQ hlf)
    have b1 : But p H (upd H lf (.lst [])) := (But.refl p H).new hlf
    have e1 : (upd H lf (.lst [])) lf = some (.lst []) := upd_same
    have nlf : lf ≠ p := sdne sc hlf
    have plf : p ≠ lf := sc.freeP hlf
    have qlf : q ≠ lf := sc.freeQ hlf
    generalize upd H lf (.lst []) = H1 at sc1 b1 e1 ⊢
    refine ⟨_, rfl, (m : Int), rfl, (rng_ok (by omega)).1, (rng_ok (by omega)).2, for_it (walk_range (n := (m : Int).toNat)) (fun i σ' H' => (∃ x y, σ' = [some (.ref p), some (.int (n : Int)), some (.int (m : Int)), some (.ref lf), x, y]) ∧ Scr H' p q cells (T + 40 * i) ∧ But p H H' ∧ ∃ acc ps, H' lf = some (.lst acc) ∧ DpAll K H' acc (dats ps) ∧ (∀ q ∈ ps, Piece.Ok n q) ∧ ps.Nodup ∧ ps.length ≤ i ∧ (1 ≤ i → 1 ≤ ps.length))
      ⟨⟨_, _, rfl⟩, sc1, b1, [], [], e1, .nil, fun _ h => (List.not_mem_nil h).elim, List.nodup_nil, Nat.le_refl _, fun h => by omega⟩ (fun _ _ _ _ _ => True.intro) ?_ ?_⟩
    · rintro i x σ' H5 H5' hi ⟨⟨x0, y0, rfl⟩, sc5, b5, acc, ps, e5, d5, ok5, nd5, l5, m5⟩ ⟨e, ex⟩
      subst e
      subst ex
      rw [Int.toNat_natCast] at hi
      refine ⟨_, rfl, _, rfl, p, q, cells, _, n, rfl, sc5, by omega, hn, fun H6 v pc hpc hd sc6 b6 => ?_⟩
      have e6 : H6 lf = some (.lst acc) := b6 _ _ e5 nlf
      have d6 : DpAll K H6 acc (dats ps) := sc5.dpAll b6 (dats_nm ok5) d5
      refine ⟨_, rfl, _, rfl, pc.dat, dats ps, hd, .lst (SqL.of e6) d6, Piece.shaped hpc, dats_shapedL ok5, ?_⟩
      rw [dats_any ok5 hpc]
      by_cases hin : pc ∈ ps
      · refine ⟨false, by rw [decide_eq_true hin]; rfl, iteF ⟨⟨_, _, rfl⟩, sc6.mono (by omega), b5.trans b6, acc, ps, e6, d6, ok5, nd5, by omega, fun _ => ?_⟩⟩
        exact List.length_pos_of_mem hin
      · have hsz : acc.length < sizeLine := by
          have := dpAll_len d6
          rw [List.length_map] at this
          exact small_lt (by omega)
        refine ⟨true, by rw [decide_eq_false hin]; rfl, iteT ⟨_, rfl, .inl ⟨rfl, _, SqL.of e6⟩, _, rfl, lf, acc, v, rfl, rfl, e6, hsz, ⟨_, _, rfl⟩, (sc6.put plf qlf).mono (by omega), but_put hlf (b5.trans b6), acc ++ [v], ps ++ [pc], upd_same, ?_, ?_, ?_, ?_, ?_⟩⟩
        · show DpAll K _ _ ((ps ++ [pc]).map Piece.dat)
          rw [List.map_append]
          exact dpAll_app (dpAll_put (dats_nm ok5) e6 d6) (dpAll_one (dp_put hpc.nm e6 hd))
        · intro q' hq'
          rcases List.mem_append.mp hq' with z | z
          · exact ok5 q' z
          · obtain rfl : q' = pc := by simpa using z
            exact hpc
        · rw [List.nodup_append]
          refine ⟨nd5, by simp, fun a ha b hb e => hin ?_⟩
          obtain rfl : b = pc := by simpa using hb
          rw [← e]
          exact ha
        · rw [List.length_append]
          show ps.length + 1 ≤ i + 1
          omega
        · intro _
          rw [List.length_append]
          show 1 ≤ ps.length + 1
          omega
    · rintro σ' H5 ⟨⟨x0, y0, rfl⟩, sc5, b5, acc, ps, e5, d5, ok5, nd5, l5, m5⟩
      rw [Int.toNat_natCast] at sc5 l5 m5
      exact ⟨_, rfl, kk _ lf acc ps hlf e5 d5 ok5 nd5 (m5 hm1) l5 sc5 b5⟩

/-! ### the text that is due -/
def spLawText (K : PySem.W.Frag) : Sp := fun vs H Q _ => ∃ (n : Nat) (l : Addr) (xs : List V) (ps : List Piece), vs = [.int (n : Int), .ref l] ∧ SqL K H l xs ∧ DpAll K H xs (dats ps) ∧ n ≤ 2 ∧ (∀ q ∈ ps, Piece.Ok n q) ∧ ps.length ≤ 60 ∧ ∀ H', Same H H' → Q (.str (txtOf n ps)) H'
abbrev NText : List Str := ["_law_wide", "_law_pieces_here", "_law_items", "_law_corner", "_law_rows", "_law_shift", "_law_row", "_law_each"]
theorem scText : FnScope NText ["_law_wide", "_law_pieces_here"] (defScope sText) := ⟨rfl, rfl, rfl, by decide +kernel, rfl, by decide +kernel, by decide +kernel⟩
/-- the items so far: i pieces whole, of the next the corner and j rows -/
def curItems (n : Nat) (ps : List Piece) (i : Nat) (p : Piece) (j : Nat) : List Str := istr (n : Int) :: (ps.take i).flatMap Piece.items ++ (slash :: (p.c.map istr ++ ((p.all.take j).flatten).map Num.txt))
theorem cur_next {n : Nat} {ps : List Piece} {i j : Nat} {p : Piece} {r : List Num} (h : p.all[j]? = some r) : curItems n ps i p (j + 1) = curItems n ps i p j ++ r.map Num.txt := by
  unfold curItems
  rw [take_next h, List.flatten_append, List.map_append]
  simp
theorem cur_end {n : Nat} {ps : List Piece} {i : Nat} {p : Piece} (h : ps[i]? = some p) (hp : p.Ok n) : curItems n ps i p (n + 1) = istr (n : Int) :: (ps.take (i + 1)).flatMap Piece.items := by
  have hl : p.all.length ≤ n + 1 := by
    unfold Piece.all
    rw [List.length_append, hp.rl]
    exact Nat.le_refl _
  unfold curItems
  rw [take_all hl, p.all_flat, take_next h, List.flatMap_append]
  show _ :: (List.flatMap Piece.items (ps.take i) ++ _) = _
  congr 2
  simp [Piece.items]
theorem cur_len {n : Nat} {ps : List Piece} {i j : Nat} {p : Piece} (hn : n ≤ 2) (h : ∀ p ∈ ps, p.Ok n) (hl : ps.length ≤ 60) (hp : p.Ok n) : (curItems n ps i p j).length ≤ 560 := by
  have z := flatMap_le hn (ps := ps.take i) fun p hp => h p (List.mem_of_mem_take hp)
  have z2 : (ps.take i).length ≤ ps.length := by rw [List.length_take]; omega
  have z3 := take_flat_le (i := j) hp hn
  unfold curItems
  rw [List.cons_append, List.length_cons, List.length_append, List.length_cons, List.length_append, List.length_map, List.length_map, hp.cl]
  omega
theorem ok_text {f g1 : Addr} (B : Bt mg) (F : Fx K mg "_law_text" sText f) (G1 : Kp P w K mg base 1 "_law_written" g1 (spTextIn K)) : Kp P w K mg base 2 "_law_text" f (spLawText K) := by
  refine kp_mk F scText (fun vs H Q E h => ?_) (fun _ _ _ _ _ _ us hl => match us, hl with | [_, _], _ => rfl) (fun cdv A outer s H vs Q E hr h => ?_)
  · obtain ⟨n, l, xs, ps, rfl, _⟩ := h
    rfl
  · obtain ⟨n, l, xs, ps, rfl, hl, hda, hn, hok, hlen, kk⟩ := h
    have nd := scText.nd
    have hxl : xs.length = ps.length := by rw [dpAll_len hda, List.length_map]
    have big : (1000 : Nat) < sizeLine := by decide
    refine ⟨_, pss_cons (ps_set (i := 2) nd rfl (Or.inl rfl) (pe_lst (pa_cons (pe_callTy call_str_int (by rfl) B.str_ PyProof.Rows.boot_str (pa_cons (pv 0) pa_nil)) pa_nil)))
      (pss_cons (ps_for PassesOwn.never rfl (pi_list (pv 1)) (pg_tup (by rfl) (pgs_cons (pg_name (i := 3) nd rfl (Or.inl rfl)) (pgs_cons (pg_name (i := 4) nd rfl (Or.inl rfl)) (pgs_cons (pg_name (i := 5) nd rfl (Or.inl rfl)) pgs_nil))))
        (pss_cons (ps_set (i := 2) nd rfl (Or.inl rfl) (pe_op op_cat (pe_op op_cat (pv 2) (pe_lst (pa_cons pe_str pa_nil))) (pe_lc (own := [("_law_each", 7)]) (g := gName 7) (tt := tYes) rfl nd (pi_tup (pv 3)) (blkOk_by (own := [("_law_each", 7)]) (N := NText) (sc := defScope sText) (by decide +kernel))
          (fun _ _ _ _ _ => pg_name (i := 7) nd rfl (Or.inl rfl)) (fun _ _ _ _ _ => pts_nil) (fun _ _ _ _ _ => pe_callTy call_str_int (by rfl) B.str_ PyProof.Rows.boot_str (pa_cons (pv 7) pa_nil)))))
        (pss_cons (ps_for PassesOwn.never rfl (pi_tup (pv 4)) (pg_name (i := 6) nd rfl (Or.inl rfl))
          (pss_one (ps_set (i := 2) nd rfl (Or.inl rfl) (pe_op op_cat (pv 2) (pe_lc (own := [("_law_each", 7)]) (g := gName 7) (tt := tYes) rfl nd (pi_tup (pv 6)) (blkOk_by (own := [("_law_each", 7)]) (N := NText) (sc := defScope sText) (by decide +kernel))
            (fun _ _ _ _ _ => pg_name (i := 7) nd rfl (Or.inl rfl)) (fun _ _ _ _ _ => pts_nil) (fun _ _ _ _ _ => pe_k G1 hr (pa_cons (pv 7) pa_nil)))))))
        (pss_one (ps_set (i := 2) nd rfl (Or.inl rfl) (pe_op op_cat (pv 2) (pe_lc (own := [("_law_each", 7)]) (g := gName 7) (tt := tYes) rfl nd (pi_tup (pv 5)) (blkOk_by (own := [("_law_each", 7)]) (N := NText) (sc := defScope sText) (by decide +kernel))
            (fun _ _ _ _ _ => pg_name (i := 7) nd rfl (Or.inl rfl)) (fun _ _ _ _ _ => pts_nil) (fun _ _ _ _ _ => pe_k G1 hr (pa_cons (pv 7) pa_nil)))))))))
      (pss_one (ps_ret (pe_join pe_str (pv 2))))), ?_⟩
    refine ⟨_, rfl, (n : Int), rfl, small_log (by omega), by show 1 ≤ sizeLine; decide, fun l0 hl0 => ?_⟩
    have s0 : Same H (upd H l0 (.lst [V.str (istr (n : Int))])) := Same.one hl0
    refine ⟨_, rfl, l, rfl, ⟨_, sqL_same s0 hl⟩, for_it (walk_list (xs := xs)) (fun i σ' H' => (∃ li a b c d, σ' = [some (.int (n : Int)), some (.ref l), some (.ref li), a, b, c, d, none] ∧ H' li = some (.lst ((istr (n : Int) :: (ps.take i).flatMap Piece.items).map V.str))) ∧ Same H H')
      ⟨⟨l0, _, _, _, _, rfl, upd_same⟩, s0⟩ (fun i σ' H' _ h => sqL_same h.2 hl) ?_ ?_⟩
    · rintro i x σ' H1 H1' hi ⟨⟨li, xa, xb, xc, xd, rfl, e1⟩, s1⟩ ⟨e, hx⟩
      subst e
      obtain ⟨p, hpi, hdp⟩ := pieces_at (dpAll_same s1 _ _ hda) hx
      have hp := hok p (List.mem_of_getElem? hpi)
      obtain ⟨t, x1, y1, z1, rfl, hs, hx1, hy1, hz1⟩ := piece_parts hdp
      obtain ⟨tx, cs, rfl, hxs, hxa⟩ := dp_tup hx1
      have ecs : cs = p.c.map V.int := dpAll_ints_of hxa
      subst ecs
      obtain ⟨ty, ys, rfl, hys, hya⟩ := dp_tup hy1
      have hyl : ys.length = p.rows.length := by rw [dpAll_len hya, List.length_map]
      have hcl := hp.cl
      have len0 : (istr (n : Int) :: (ps.take i).flatMap Piece.items).length ≤ 541 := by
        have z := flatMap_le hn (ps := ps.take i) fun p hp => hok p (List.mem_of_mem_take hp)
        have z2 : (ps.take i).length ≤ ps.length := by rw [List.length_take]; omega
        rw [List.length_cons]
        omega
      refine ⟨t, _, rfl, hs, rfl, _, _, rfl, _, _, rfl, _, _, rfl, rfl, ?_⟩
      -- items + ['/']
      refine ⟨_, rfl, by show 1 ≤ sizeLine; decide, fun l1 hl1 => ?_⟩
      have s2 : Same H1' (upd H1' l1 (.lst [V.str slash])) := Same.one hl1
      refine ⟨li, l1, _, _, rfl, rfl, s2 _ _ e1, upd_same, ?_, fun l2 hl2 => ?_⟩
      · rw [List.length_map]
        show (istr (n : Int) :: (ps.take i).flatMap Piece.items).length + 1 ≤ sizeLine
        omega
      have s3 : Same (upd H1' l1 (.lst [V.str slash])) (upd (upd H1' l1 (.lst [V.str slash])) l2 (.lst ((istr (n : Int) :: (ps.take i).flatMap Piece.items).map V.str ++ [V.str slash]))) := Same.one hl2
      have s13 := Same.trans s2 s3
      have e3 : (upd (upd H1' l1 (.lst [V.str slash])) l2 (.lst ((istr (n : Int) :: (ps.take i).flatMap Piece.items).map V.str ++ [V.str slash]))) l2 = some (.lst ((istr (n : Int) :: (ps.take i).flatMap Piece.items).map V.str ++ [V.str slash])) := upd_same
      generalize upd (upd H1' l1 (.lst [V.str slash])) l2 (.lst ((istr (n : Int) :: (ps.take i).flatMap Piece.items).map V.str ++ [V.str slash])) = H3 at s3 s13 e3 ⊢
      refine ⟨_, rfl, tx, rfl, ⟨_, sqT_same s13 hxs⟩, fun D hD => lc_same (walk_tup (xs := p.c.map V.int)) (small_lt (by rw [List.length_map]; omega)) hD (fun i v H => ∃ q, p.c[i]? = some q ∧ v = V.str (istr q)) (fun _ _ _ _ _ _ h => h) (fun _ _ _ _ _ h => h) (fun acc H3 sm3 _ => sqT_same (s13.trans sm3) hxs) (fun _ _ _ _ h => h.1) ?_ ?_⟩
      · rintro j acc x H4 Post hj sm4 hDD4 ⟨_, hx4⟩ post
        rw [List.getElem?_map] at hx4
        obtain ⟨m, hm, rfl⟩ := Option.map_eq_some_iff.mp hx4
        have hb := hp.cb m (List.mem_of_getElem? hm)
        exact ⟨rfl, _, rfl, m, rfl, small_log (by omega), post _ _ (Same.refl _) ⟨m, hm, rfl⟩⟩
      intro ys4 H4 hlen4 hT4 sm4 hDD4
      rw [List.length_map] at hlen4
      have e4 : ys4 = p.c.map (fun q => V.str (istr q)) := map_of hlen4 hT4
      refine ⟨l2, D, _, _, rfl, rfl, sm4 _ _ e3, hDD4, ?_, fun l5 hl5 => ?_⟩
      · rw [List.length_append, List.length_map, hlen4]
        show (istr (n : Int) :: (ps.take i).flatMap Piece.items).length + 1 + p.c.length ≤ sizeLine
        omega
      have ecur : (istr (n : Int) :: (ps.take i).flatMap Piece.items).map V.str ++ [V.str slash] ++ ys4 = (curItems n ps i p 0).map V.str := by
        rw [e4]
        unfold curItems
        simp
      rw [ecur]
      have s5 : Same H1' (upd H4 l5 (.lst ((curItems n ps i p 0).map V.str))) := Same.trans (Same.trans s13 sm4) (Same.one hl5)
      have e5 : (upd H4 l5 (.lst ((curItems n ps i p 0).map V.str))) l5 = some (.lst ((curItems n ps i p 0).map V.str)) := upd_same
      generalize upd H4 l5 (.lst ((curItems n ps i p 0).map V.str)) = H5 at s5 e5 ⊢
      -- one more row of numbers behind the items
      refine ⟨_, rfl, ty, rfl, ⟨_, sqT_same s5 hys⟩, for_it (walk_tup (xs := ys)) (fun j σ' H' => (∃ li d, σ' = [some (.int (n : Int)), some (.ref l), some (.ref li), some (.ref tx), some (.ref ty), some z1, d, none] ∧ H' li = some (.lst ((curItems n ps i p j).map V.str))) ∧ Same H1' H')
        ⟨⟨l5, _, rfl, e5⟩, s5⟩ (fun j σ' H' _ h => sqT_same h.2 hys) ?_ ?_⟩
      · rintro j x σ' H6 H6' hj ⟨⟨l6, xd6, rfl, e6⟩, s6⟩ ⟨e, hx⟩
        subst e
        obtain ⟨r, hri, hdr⟩ := rows_at (dpAll_same s6 _ _ hya) hx
        have hall : p.all[j]? = some r := by
          unfold Piece.all
          rw [List.getElem?_append_left (by omega)]
          exact hri
        obtain ⟨hrl, hro⟩ := all_ok hp r (List.mem_of_getElem? hall)
        obtain ⟨tr, us, rfl, hus, hua⟩ := dp_tup hdr
        have hul : us.length = r.length := by rw [dpAll_len hua, List.length_map]
        refine ⟨_, rfl, _, rfl, tr, rfl, ⟨_, hus⟩, fun D6 hD6 => lc_same (walk_tup (xs := us)) (small_lt (by omega)) hD6 (fun i v H => ∃ q, (r)[i]? = some q ∧ v = V.str q.txt) (fun _ _ _ _ _ _ h => h) (fun _ _ _ _ _ h => h) (fun acc H3 sm3 _ => sqT_same sm3 hus) (fun _ _ _ _ h => h.1) ?_ ?_⟩
        · rintro k acc x7 H7 Post hk sm7 hDD7 ⟨_, hx7⟩ post
          obtain ⟨qn, hqi, hdq⟩ := row_at (dpAll_same sm7 _ _ hua) hx7
          exact ⟨rfl, _, rfl, x7, qn, rfl, hdq, hro qn (List.mem_of_getElem? hqi), post _ _ (Same.refl _) ⟨qn, hqi, rfl⟩⟩
        · intro ys7 H7 hlen7 hT7 sm7 hDD7
          have e7 : ys7 = r.map (fun q => V.str q.txt) := map_of (by omega) hT7
          refine ⟨l6, D6, _, _, rfl, rfl, sm7 _ _ e6, hDD7, ?_, fun l8 hl8 => ?_⟩
          · have := cur_len (i := i) (j := j) hn hok hlen hp
            rw [List.length_map]
            omega
          have ecur : (curItems n ps i p j).map V.str ++ ys7 = (curItems n ps i p (j + 1)).map V.str := by
            rw [e7, cur_next hall, List.map_append, List.map_map]
            rfl
          rw [ecur]
          have s8 := Same.trans (Same.trans s6 sm7) (Same.one (o := .lst ((curItems n ps i p (j + 1)).map V.str)) hl8)
          exact ⟨⟨l8, _, rfl, upd_same⟩, s8⟩
      · rintro σ' H6 ⟨⟨l6, xd6, rfl, e6⟩, s6⟩
        rw [hyl, hp.rl] at e6
        have hall : p.all[n]? = some p.s := by
          unfold Piece.all
          rw [List.getElem?_append_right (by rw [hp.rl]; omega), hp.rl, Nat.sub_self]
          rfl
        have hdr := dp_same s6 _ _ hz1
        obtain ⟨hrl, hro⟩ := all_ok hp p.s (List.mem_of_getElem? hall)
        obtain ⟨tr, us, rfl, hus, hua⟩ := dp_tup hdr
        have hul : us.length = p.s.length := by rw [dpAll_len hua, List.length_map]
        refine ⟨_, rfl, _, rfl, tr, rfl, ⟨_, hus⟩, fun D6 hD6 => lc_same (walk_tup (xs := us)) (small_lt (by omega)) hD6 (fun i v H => ∃ q, (p.s)[i]? = some q ∧ v = V.str q.txt) (fun _ _ _ _ _ _ h => h) (fun _ _ _ _ _ h => h) (fun acc H3 sm3 _ => sqT_same sm3 hus) (fun _ _ _ _ h => h.1) ?_ ?_⟩
        · rintro k acc x7 H7 Post hk sm7 hDD7 ⟨_, hx7⟩ post
          obtain ⟨qn, hqi, hdq⟩ := row_at (dpAll_same sm7 _ _ hua) hx7
          exact ⟨rfl, _, rfl, x7, qn, rfl, hdq, hro qn (List.mem_of_getElem? hqi), post _ _ (Same.refl _) ⟨qn, hqi, rfl⟩⟩
        · intro ys7 H7 hlen7 hT7 sm7 hDD7
          have e7 : ys7 = p.s.map (fun q => V.str q.txt) := map_of (by omega) hT7
          refine ⟨l6, D6, _, _, rfl, rfl, sm7 _ _ e6, hDD7, ?_, fun l8 hl8 => ?_⟩
          · have := cur_len (i := i) (j := n) hn hok hlen hp
            rw [List.length_map]
            omega
          have ecur : (curItems n ps i p n).map V.str ++ ys7 = (curItems n ps i p (n + 1)).map V.str := by
            rw [e7, cur_next hall, List.map_append, List.map_map]
            rfl
          rw [ecur]
          have s8 := Same.trans (Same.trans s6 sm7) (Same.one (o := .lst ((curItems n ps i p (n + 1)).map V.str)) hl8)
          refine ⟨⟨l8, _, _, _, _, rfl, ?_⟩, Same.trans s1 s8⟩
          rw [upd_same, cur_end hpi hp]
    · rintro σ' H5 ⟨⟨li, a, b, c, d, rfl, e5⟩, s5⟩
      rw [take_all (l := ps) (by omega)] at e5
      exact ⟨⟨_, rfl⟩, _, rfl, blank, li, allItems n ps, rfl, rfl, .inl (SqL.of e5), join_fits hn hok hlen, kk _ s5⟩
end
end K6

set_option maxRecDepth 100000
set_option maxHeartbeats 4000000
/-! KD7a: words for the law's body. -/
namespace K6
open PySem PySem.Spec PyProof.Rows L2
open TL (tl)

/-- an expression's promise, weaker -/
theorem pe_weak {X : Cx} {e : Expr} {te te' : TE} (h : PE X e te) (w : ∀ σ H Q, te' σ H Q → te σ H Q) : PE X e te' := ⟨fun pins s σ H Q I q => h.run pins s σ H Q I (w σ H Q q)⟩
/-- ==, != and str of a machine -/
structure OwnK (P : Program) (w : World) (K : PySem.W.Frag) (mg : Str → Option Value) (base : Heap) (C : Addr) : Prop where
  ex : ∃ fE fS, OwnOps K C fE fS ∧ Fo P w K mg base 1 fE (spMachEq K C) ∧ Fo P w K mg base 4 fS (spMachStr K C)
section
variable {X : Cx} {C : Addr} {j : Nat}
def rMEq (K : PySem.W.Frag) (C : Addr) (neg : Bool) : R2 := fun x y H Q => ∃ (a b : Addr) (n m : Nat) (ps qs : List Piece), x = .ref a ∧ y = .ref b ∧ MachAt K C H a n ps ∧ MachAt K C H b m qs ∧ (∀ q ∈ ps, q.Ok n) ∧ (∀ q ∈ qs, q.Ok m) ∧
  Q (.bl (if neg then !(decide (n = m) && decide (ps = qs)) else (decide (n = m) && decide (ps = qs)))) H
theorem rMEq_own {K : PySem.W.Frag} {neg : Bool} {x y : V} {H : Hp} {Q : VK} (h : rMEq K C neg x y H Q) : rOwn C (spMachEq K C) E0 neg x y H Q := by
  obtain ⟨a, b, n, m, ps, qs, rfl, rfl, ha, hb, h1, h2, q⟩ := h
  obtain ⟨dx, t, xs, e1, _⟩ := ha.ob
  obtain ⟨dy, t', ys, e2, _⟩ := hb.ob
  exact ⟨a, b, dx, dy, _, _, rfl, rfl, e1, e2, a, b, n, m, ps, qs, rfl, ha, hb, h1, h2, _, rfl, q⟩
theorem op_mEq (G : OwnK X.prog X.w X.K X.mg X.base C) (hr : Room j X.A) (hj : 1 ≤ j := by decide) : OpR X (compareOp .Eq) (rMEq X.K C false) := by
  obtain ⟨fE, fS, O, GE, _⟩ := G.ex
  obtain ⟨fd, ps, F, b⟩ := GE.ok
  intro pins s σ H x y v u Q I rx ry h
  exact op_ownEq F (hr.mono hj) O (by
    have hl : ps.length = ps.length := rfl
    exact b) pass0 pins s σ H x y v u Q I rx ry (rMEq_own h)
theorem op_mNe (G : OwnK X.prog X.w X.K X.mg X.base C) (hr : Room j X.A) (hj : 2 ≤ j := by decide) : OpR X (compareOp .NotEq) (rMEq X.K C true) := by
  obtain ⟨fE, fS, O, GE, _⟩ := G.ex
  obtain ⟨fd, ps, F, b⟩ := GE.ok
  intro pins s σ H x y v u Q I rx ry h
  exact op_ownNe F (hr.mono hj) O b pass0 pins s σ H x y v u Q I rx ry (rMEq_own h)
theorem call_mStr (G : OwnK X.prog X.w X.K X.mg X.base C) (hr : Room j X.A) (hj : 6 ≤ j := by decide) : CallR X (.type "str") (fun xs H Q => ∃ (a : Addr) (n : Nat) (ps : List Piece), xs = [.ref a] ∧ MachAt X.K C H a n ps ∧ n ≤ 2 ∧ (∀ q ∈ ps, q.Ok n) ∧ ps.length ≤ 60 ∧ ∀ H', Same H H' → Q (.str (txtOf n ps)) H') := by
  obtain ⟨fE, fS, O, _, GS⟩ := G.ex
  obtain ⟨fd, ps, F, b⟩ := GS.ok
  intro pins s σ H xs us Q I r h
  obtain ⟨a, n, ps, rfl, ha, h1, h2, h3, q⟩ := h
  obtain ⟨dx, t, xs, e1, _⟩ := ha.ob
  exact call_ownStr F (hr.mono hj) O b pass0 pins s σ H _ us Q I r ⟨a, dx, _, rfl, e1, a, n, ps, rfl, ha, h1, h2, h3, fun H' s' => ⟨_, rfl, q H' s'⟩⟩
end
/-! ### what has been told so far -/
structure Fr (K : PySem.W.Frag) (H : Hp) (lx lt : Addr) (L : List (Nat × List Piece)) : Prop where
  tx : H lx = some (.lst (L.map fun e => V.str (txtOf e.1 e.2)))
  td : ∃ tds, H lt = some (.lst tds) ∧ DpAll K H tds (L.map tdD)
  ok : ∀ e ∈ L, Good e.1 e.2
theorem tds_nm {L : List (Nat × List Piece)} (h : ∀ e ∈ L, Good e.1 e.2) : nmAll (L.map tdD) = true := by
  rw [nmAll_iff]
  intro d hd
  obtain ⟨e, he, rfl⟩ := List.mem_map.mp hd
  exact td_nm (h e he)
theorem Fr.same {K : PySem.W.Frag} {H H' : Hp} {lx lt : Addr} {L : List (Nat × List Piece)} (f : Fr K H lx lt L) (e : Same H H') : Fr K H' lx lt L := by
  obtain ⟨tds, h1, h2⟩ := f.td
  exact ⟨e _ _ f.tx, ⟨tds, e _ _ h1, dpAll_same e _ _ h2⟩, f.ok⟩
theorem Fr.but {K : PySem.W.Frag} {H H' : Hp} {lx lt p : Addr} {xs : List V} {L : List (Nat × List Piece)} (f : Fr K H lx lt L) (hp : H p = some (.lst xs)) (e : But p H H') (h1 : lx ≠ p) (h2 : lt ≠ p) : Fr K H' lx lt L := by
  obtain ⟨tds, h3, h4⟩ := f.td
  exact ⟨e _ _ f.tx h1, ⟨tds, e _ _ h3 h2, dpAll_but hp (noTup_lst _) e _ _ (tds_nm f.ok) h4⟩, f.ok⟩
theorem Fr.put {K : PySem.W.Frag} {H : Hp} {lx lt D : Addr} {acc acc' : List V} {L : List (Nat × List Piece)} (f : Fr K H lx lt L) (hD : H D = some (.lst acc)) (h1 : lx ≠ D) (h2 : lt ≠ D) : Fr K (upd H D (.lst acc')) lx lt L := by
  obtain ⟨tds, h3, h4⟩ := f.td
  exact ⟨by rw [upd_ne h1]; exact f.tx, ⟨tds, by rw [upd_ne h2]; exact h3, dpAll_put (tds_nm f.ok) hD h4⟩, f.ok⟩
theorem Fr.push {K : PySem.W.Frag} {H : Hp} {lx lt : Addr} {L : List (Nat × List Piece)} {tds : List V} {v : V} {e : Nat × List Piece} (f : Fr K H lx lt L) (h1 : H lt = some (.lst tds)) (h2 : DpAll K H tds (L.map tdD)) (hv : Dp K H v (tdD e)) (he : Good e.1 e.2) (hne : lx ≠ lt) :
    Fr K (upd (upd H lt (.lst (tds ++ [v]))) lx (.lst (L.map (fun e => V.str (txtOf e.1 e.2)) ++ [V.str (txtOf e.1 e.2)]))) lx lt (L ++ [e]) := by
  have hok : ∀ e' ∈ L ++ [e], Good e'.1 e'.2 := fun e' h => by
    rcases List.mem_append.mp h with z | z
    · exact f.ok e' z
    · obtain rfl : e' = e := by simpa using z
      exact he
  refine ⟨by rw [upd_same, List.map_append]; rfl, ⟨tds ++ [v], by rw [upd_ne (Ne.symm hne)]; exact upd_same, ?_⟩, hok⟩
  have hx : (upd H lt (.lst (tds ++ [v]))) lx = some (.lst (L.map (fun e => V.str (txtOf e.1 e.2)))) := by rw [upd_ne hne]; exact f.tx
  refine dpAll_put (tds_nm hok) hx ?_
  rw [List.map_append]
  exact dpAll_app (dpAll_put (tds_nm f.ok) h1 h2) (dpAll_one (dp_put (td_nm he) h1 hv))
theorem ne_self (x : V) : V.bl (!decide (x = x)) = V.bl false := by simp
theorem dpAll_take {K : PySem.W.Frag} {H : Hp} : ∀ {ds : List PyData} {xs : List V} (r : Nat), DpAll K H xs ds → DpAll K H (xs.take r) (ds.take r)
  | _, _, 0, _ => by
    rw [List.take_zero, List.take_zero]
    exact .nil
  | [], _, r + 1, h => by
    cases h
    exact .nil
  | d :: ds, _, r + 1, h => by
    cases h with
    | cons h1 h2 => exact .cons h1 (dpAll_take r h2)
theorem dpAll_drop {K : PySem.W.Frag} {H : Hp} : ∀ {ds : List PyData} {xs : List V} (r : Nat), DpAll K H xs ds → DpAll K H (xs.drop r) (ds.drop r)
  | _, _, 0, h => h
  | [], _, r + 1, h => by
    cases h
    exact .nil
  | d :: ds, _, r + 1, h => by
    cases h with
    | cons h1 h2 => exact dpAll_drop r h2
theorem good_ins {n : Nat} {ps : List Piece} {g : Piece} {r : Nat} (h : Good n ps) (hg : g.Ok n) (hn : g ∉ ps) (hl : ps.length < 60) : Good n (ps.take r ++ [g] ++ ps.drop r) := by
  have hp : (ps.take r ++ [g] ++ ps.drop r).Perm (g :: ps) := by
    have z : (ps.take r ++ g :: ps.drop r).Perm (g :: (ps.take r ++ ps.drop r)) := List.perm_middle
    rw [List.take_append_drop] at z
    simpa using z
  have hlen : (ps.take r ++ [g] ++ ps.drop r).length = ps.length + 1 := hp.length_eq
  refine ⟨h.n1, h.n2, fun q hq => ?_, (hp.nodup_iff).mpr (List.nodup_cons.mpr ⟨hn, h.nd⟩), by omega, by omega⟩
  rcases List.mem_cons.mp ((hp.mem_iff).mp hq) with rfl | z
  · exact hg
  · exact h.ok q z
end K6

set_option maxRecDepth 100000
set_option maxHeartbeats 4000000
/-! KD7b: the checks of one machine. -/
namespace K6
open PySem PySem.Spec PyProof.Rows L2
open TL (tl)

abbrev NLaw : List Str := ["_law_script", "_law_scroll_here", "_law_texts", "_law_told", "_law_turn", "_law_wide", "_law_pieces_here", "_law_great_here", "_law_made", "_law_due", "_law_again", "_law_one", "_law_first", "_law_other", "_law_second", "_law_many", "_law_at"]
theorem scLaw : FnScope NLaw ["_law_script"] (defScope sLaw) := ⟨rfl, rfl, rfl, by decide +kernel, rfl, by decide +kernel, by decide +kernel⟩
/-- the body of the first loop; the two loops behind it; the end -/
def lawFor : List Stmt := match defBody sLaw with
  | [_, _, .For _ _ b _ _, _, _, _] => b
  | _ => []
def lawChecks : List Stmt := lawFor.drop 4
def lawEnd : List Stmt := (defBody sLaw).drop 4
section
variable {P : Program} {w : World} {K : PySem.W.Frag} {mg : Str → Option Value} {base : Heap}
abbrev lawX (P : Program) (w : World) (K : PySem.W.Frag) (mg : Str → Option Value) (base : Heap) (f : Addr) (cdv : Value) (s : Shared) (H : Hp) : Cx := (cxOf CX0 P w K mg base NLaw "law" (defScope sLaw) f cdv callerA [] s H E0).nox
theorem law_checks {C f : Addr} {gT : Addr} {cdv : Value} {s : Shared} {H : Hp} (hr : Room 9 (callerA.deeper (envOfC "law" (defScope sLaw) s.heap.objs.size f cdv))) (B : Bt mg) (M : McT K mg C)
    (GT : Kp P w K mg base 2 "_law_text" gT (spLawText K)) (GM : Kc P w K mg base 7 "Machine" C (spMachInit K C)) (GD : Kst P w K mg base 9 "Machine" C "read" (spRead K C)) (GO : OwnK P w K mg base C) :
    ∃ t, PSs (lawX P w K mg base f cdv s H) lawChecks t ∧ ∀ (D : Ends) (i : Nat) (H12 : Hp) (a p q lx lt lp : Addr) (cells : List Int) (gv x4 : V) (x8 x9 x10 : Option V) (n : Nat) (L : List (Nat × List Piece)) (acc2 : List V) (ps2 : List Piece),
      H12 lp = some (.lst acc2) → DpAll K H12 acc2 (dats ps2) → Good n ps2 → Scr H12 p q cells (3000 * (i + 1)) → Fr K H12 lx lt L → L.length = i → i < 4 → p ≠ lx → q ≠ lx → p ≠ lt → q ≠ lt → lx ≠ lt →
      (∀ (H' : Hp) (y8 y9 y10 : V) (L' : List (Nat × List Piece)), L'.length = i + 1 → Scr H' p q cells (3000 * (i + 1)) → Fr K H' lx lt L' → D.nx [some (.ref a), some (.ref p), some (.ref lx), some (.ref lt), some x4, some (.int (n : Int)), some (.ref lp), some gv, some y8, some y9, some y10, none, none, none, none, none, none] H') →
      t D [some (.ref a), some (.ref p), some (.ref lx), some (.ref lt), some x4, some (.int (n : Int)), some (.ref lp), some gv, x8, x9, x10, none, none, none, none, none, none] H12 := by
  have nd := scLaw.nd
  have hu : (callerA.deeper (envOfC "law" (defScope sLaw) s.heap.objs.size f cdv)).units + 64 < cLine := hr.units
  have hg : (callerA.deeper (envOfC "law" (defScope sLaw) s.heap.objs.size f cdv)).guards = some [] := rfl
  refine ⟨_, (pss_cons (ps_par (i := 8) (j := 9) (by rfl) nd rfl rfl (by decide) rfl rfl (pa_cons (pe_kc GM hr (pa_cons (pv 5) (pa_cons (pv 6) pa_nil))) (pa_cons (pe_k GT hr (pa_cons (pv 5) (pa_cons (pv 6) pa_nil))) pa_nil)) (by rfl))
        (pss_cons (ps_set (i := 10) nd rfl (Or.inl rfl) (pe_ks GD hr (pv 9)))
        (pss_cons (ps_if (PW.pt (pw_or (pt_cmpR op_ne (pe_callTy (call_mStr GO hr) (by rfl) B.str_ PyProof.Rows.boot_str (pa_cons (pv 8) pa_nil)) (pv 9) (nomark _)) (pw_or (pt_cmpR (op_mNe GO hr) (pv 10) (pv 8) (nomark _))
          (pw_or (pt_cmpR op_ne (pe_callB (call_reprD hg hu) (by rfl) B.repr_ PyProof.Rows.boot_repr (pa_cons (pe_lst (pa_cons (pe_fld (pv 10) rfl) (pa_cons (pe_fld (pv 10) rfl) pa_nil))) pa_nil)) (pe_callB (call_reprD hg hu) (by rfl) B.repr_ PyProof.Rows.boot_repr (pa_cons (pe_lst (pa_cons (pv 5) (pa_cons (pe_callTy call_tuple_of (by rfl) B.tuple_ PyProof.Rows.boot_tuple (pa_cons (pv 6) pa_nil)) pa_nil))) pa_nil)) (nomark _))
            (pw_or1 (pt_cmpR op_ne (pe_callTy (call_mStr GO hr) (by rfl) B.str_ PyProof.Rows.boot_str (pa_cons (pe_ksK GD hr (pv 9)) pa_nil)) (pv 9) (nomark _))))))) pss_never pss_nil)
        (pss_cons (ps_expr (pe_bm PySem.F.plainAttrs_list PySem.F.slot_list_append PySem.F.type_list_append mt_append (pv 3) (pa_cons (pe_tup (pa_cons (pv 5) (pa_cons (pe_callTy call_tuple_of (by rfl) B.tuple_ PyProof.Rows.boot_tuple (pa_cons (pv 6) pa_nil)) pa_nil))) pa_nil)))
        (pss_one (ps_expr (pe_bm PySem.F.plainAttrs_list PySem.F.slot_list_append PySem.F.type_list_append mt_append (pv 2) (pa_cons (pv 9) pa_nil)))))))), ?_⟩
  intro D i H12 a p q lx lt lp cells gv x4 x8 x9 x10 n L acc2 ps2 e12 d12 g12 sc12 fr12 hL hi plx qlx plt qlt hxt kk
  -- made, due
  refine ⟨_, rfl, _, rfl, fun x dx hx hdx hne => ?_⟩
  have hx1 : (upd H12 dx (.own x)) x = none := by rw [upd_ne (Ne.symm hne)]; exact hx
  have sN : Same H12 (upd (upd H12 dx (.own x)) x (.ins C dx [])) := Same.new (Same.one hdx) hx1
  refine ⟨x, dx, lp, acc2, n, ps2, rfl, upd_same, SqL.of (sN _ _ e12), dpAll_same sN _ _ d12, g12.n1, g12.n2, g12.ok, g12.nd, g12.l1, g12.l2, fun H13 m13 b13 => ⟨rfl, ?_⟩⟩
  have s13 : Same H12 H13 := fun c o hc => b13 c o (sN c o hc) (ne_of_none hc hx)
  refine ⟨_, rfl, _, rfl, n, lp, acc2, ps2, rfl, SqL.of (s13 _ _ e12), dpAll_same s13 _ _ d12, g12.n2, g12.ok, g12.l2, fun H14 s14 => ⟨_, _, rfl, ?_⟩⟩
  -- again
  refine ⟨_, rfl, n, ps2, rfl, g12.n1, g12.n2, g12.ok, g12.nd, g12.l1, g12.l2, fun H15 y hy0 m15 s15 => ?_⟩
  have m13' := m13.same (s14.trans s15)
  refine ⟨_, rfl, x, n, ps2, rfl, m13', g12.n2, g12.ok, g12.l2, fun H16 s16 => ⟨_, rfl, rfl, false, ne_self _, iteF ?_⟩⟩
  refine ⟨_, rfl, _, rfl, y, x, n, n, ps2, ps2, rfl, rfl, m15.same s16, m13'.same s16, g12.ok, g12.ok, false, by simp, iteF ?_⟩
  have s1216 : Same H12 H16 := ((s13.trans s14).trans s15).trans s16
  obtain ⟨dy, ty, ys, y1, y2, y3⟩ := (m15.same s16).ob
  refine ⟨_, rfl, y, C, dy, _, _, rfl, y1, M.ic.cl, M.nW, mf_wide _ _, _, rfl, y, C, dy, _, _, rfl, y1, M.ic.cl, M.nP, mf_pieces _ _, by show 2 ≤ sizeLine; decide, fun l7 hl7 => ?_⟩
  have s17 : Same H16 (upd H16 l7 (.lst [V.int ((n : Nat) : Int), V.ref ty])) := Same.one hl7
  refine ⟨l7, wpD n ps2, rfl, .lst (SqL.of upd_same) (.cons (.int _) (.cons (.tup (sqT_same s17 y2) (dpAll_same s17 _ _ y3)) .nil)), wp_shows g12.n2 g12.ok, wp_noDict g12.n2 g12.ok, wp_depth, wp_len g12.n2 g12.ok g12.l2, ?_⟩
  have s1217 := s1216.trans s17
  refine ⟨_, rfl, _, rfl, lp, acc2, rfl, .inl ⟨SqL.of (s1217 _ _ e12), fun t8 ht8 => ⟨by show 2 ≤ sizeLine; decide, fun l9 hl9 => ?_⟩⟩⟩
  have s18 := Same.one (o := .tup acc2) ht8
  have s19 := Same.one (o := .lst [V.int ((n : Nat) : Int), V.ref t8]) hl9
  have s1219 := (Same.trans (Same.trans s1217 s18) s19)
  refine ⟨l9, wpD n ps2, rfl, .lst (SqL.of upd_same) (.cons (.int _) (.cons (.tup (sqT_same s19 (.inl (.inl upd_same))) (dpAll_same s1219 _ _ d12)) .nil)), wp_shows g12.n2 g12.ok, wp_noDict g12.n2 g12.ok, wp_depth, wp_len g12.n2 g12.ok g12.l2, rfl, false, ne_self _, iteF ?_⟩
  refine ⟨_, rfl, n, ps2, rfl, g12.n1, g12.n2, g12.ok, g12.nd, g12.l1, g12.l2, fun H20 z hz0 m20 s20 => ⟨z, n, ps2, rfl, m20, g12.n2, g12.ok, g12.l2, fun H21 s21 => ⟨_, rfl, rfl, false, ne_self _, iteF ?_⟩⟩⟩
  have s1221 : Same H12 H21 := (s1219.trans s20).trans s21
  have fr21 := fr12.same s1221
  -- told
  refine ⟨_, rfl, .inl ⟨rfl, _, SqL.of (fr21.td.choose_spec.1)⟩, _, rfl, _, rfl, lp, acc2, rfl, .inl ⟨SqL.of (s1221 _ _ e12), fun t22 ht22 => ⟨by show 2 ≤ sizeLine; decide, fun t23 ht23 => ?_⟩⟩⟩
  have s22 := Same.one (o := .tup acc2) ht22
  have s23 := Same.one (o := .tup [V.int ((n : Nat) : Int), V.ref t22]) ht23
  have s1223 := Same.trans (Same.trans s1221 s22) s23
  have fr23 := fr12.same s1223
  have dT : Dp K (upd (upd H21 t22 (.tup acc2)) t23 (.tup [V.int ((n : Nat) : Int), V.ref t22])) (.ref t23) (tdD (n, ps2)) := .tup (.inl (.inl upd_same)) (.cons (.int _) (.cons (.tup (sqT_same s23 (.inl (.inl upd_same))) (dpAll_same s1223 _ _ d12)) .nil))
  have sc23 := sc12.same s1223
  generalize upd (upd H21 t22 (.tup acc2)) t23 (.tup [V.int ((n : Nat) : Int), V.ref t22]) = H23 at fr23 dT sc23 ⊢
  obtain ⟨tds, z1, z2⟩ := fr23.td
  have htl : tds.length = L.length := by rw [dpAll_len z2, List.length_map]
  refine ⟨lt, tds, V.ref t23, rfl, rfl, z1, small_lt (by omega), ?_⟩
  have hx23 : (upd H23 lt (.lst (tds ++ [V.ref t23]))) lx = some (.lst (L.map fun e => V.str (txtOf e.1 e.2))) := by rw [upd_ne hxt]; exact fr23.tx
  refine ⟨_, rfl, .inl ⟨rfl, _, SqL.of hx23⟩, _, rfl, lx, _, V.str (txtOf n ps2), rfl, rfl, hx23, ?_, ?_⟩
  · exact small_lt (by rw [List.length_map]; omega)
  · have fe := fr23.push z1 z2 dT g12 hxt
    have sce := (sc23.put (o := .lst (tds ++ [V.ref t23])) plt qlt).put (o := .lst (L.map (fun e => V.str (txtOf e.1 e.2)) ++ [V.str (txtOf n ps2)])) plx qlx
    have le : (L ++ [(n, ps2)]).length = i + 1 := by rw [List.length_append, hL]; rfl
    exact kk _ _ _ _ (L ++ [(n, ps2)]) le sce fe
end
end K6

set_option maxRecDepth 100000
set_option maxHeartbeats 8000000
/-! KD7: the law's own body. -/
namespace K6
open PySem PySem.Spec PyProof.Rows L2
open TL (tl)

section
variable {P : Program} {w : World} {K : PySem.W.Frag} {mg : Str → Option Value} {base : Heap}
def spLaw (K : PySem.W.Frag) : Sp := fun vs H Q _ => ∃ (a : Addr) (ns : List Int), vs = [.ref a] ∧ SqL K H a (ns.map V.int) ∧ ∀ H', Q (.bl true) H'
/-- 60 on the last turn, else 2 -/
def tMost : TE := fun σ H Q => (∃ x : Int, σ[4]? = some (some (.int x))) ∧ ∀ m : Int, m = 60 ∨ m = 2 → Q (.int m) H
def manyP (k : Nat) : Piece := ⟨[(k : Int), -(k : Int)], [[.whole (k : Int), .whole 0], [.frac 1 7, .whole 1]], [.whole 0, .whole (k : Int)]⟩
def manyPs : List Piece := (List.range 60).map manyP
theorem manyP_ok {k : Nat} (h : k < 60) : (manyP k).Ok 2 := by
  have hk : Num.Ok (.whole (k : Int)) := by show (k : Int).natAbs ≤ 1000000; omega
  have h0 : Num.Ok (.whole 0) := by show (0 : Int).natAbs ≤ 1000000; decide
  have h1 : Num.Ok (.whole 1) := by show (1 : Int).natAbs ≤ 1000000; decide
  have h7 : Num.Ok (.frac 1 7) := ⟨by decide, by decide, by decide, by decide⟩
  refine ⟨rfl, fun x hx => ?_, rfl, fun r hr => ?_, rfl, fun q hq => ?_⟩
  · simp only [manyP, List.mem_cons, List.not_mem_nil, or_false] at hx
    rcases hx with rfl | rfl <;> omega
  · simp only [manyP, List.mem_cons, List.not_mem_nil, or_false] at hr
    rcases hr with rfl | rfl
    · refine ⟨rfl, fun q hq => ?_⟩
      simp only [List.mem_cons, List.not_mem_nil, or_false] at hq
      rcases hq with rfl | rfl
      · exact hk
      · exact h0
    · refine ⟨rfl, fun q hq => ?_⟩
      simp only [List.mem_cons, List.not_mem_nil, or_false] at hq
      rcases hq with rfl | rfl
      · exact h7
      · exact h1
  · simp only [manyP, List.mem_cons, List.not_mem_nil, or_false] at hq
    rcases hq with rfl | rfl
    · exact h0
    · exact hk
theorem manyP_inj {j k : Nat} (h : manyP j = manyP k) : j = k := by
  simp only [manyP, Piece.mk.injEq, List.cons.injEq, and_true] at h
  omega
theorem many_good : Good 2 manyPs := by
  refine ⟨by omega, by omega, fun q hq => ?_, ?_, by decide, by decide⟩
  · obtain ⟨k, hk, rfl⟩ := List.mem_map.mp hq
    exact manyP_ok (List.mem_range.mp hk)
  · exact List.pairwise_map.mpr (List.Pairwise.imp (fun hne e => hne (manyP_inj e)) List.nodup_range)
theorem ok_law {S C f : Addr} {fd : FuncData} {gS gR gK gG gP gT : Addr} (hr : Room 10 callerA) (B : Bt mg) (M : McT K mg C) (F : Fun K "law" "law" sLaw f fd)
    (GS : Kp P w K mg base 1 "_law_scroll" gS (spScroll K)) (GR : Kp P w K mg base 1 "_law_roll_by" gR spRoll) (GK : Kp P w K mg base 2 "_law_pick" gK spPick) (GG : Kp P w K mg base 3 "_law_great" gG (spPiece K)) (GP : Kp P w K mg base 5 "_law_pieces" gP (spPieces K)) (GT : Kp P w K mg base 2 "_law_text" gT (spLawText K))
    (GM : Kc P w K mg base 7 "Machine" C (spMachInit K C)) (GD : Kst P w K mg base 9 "Machine" C "read" (spRead K C)) (GO : OwnK P w K mg base C) : LawOk P w K mg base f fd "_law_script" (spLaw K) := by
  refine lawOk_by F scLaw hr (fun vs H Q E h => ?_) (fun cdv s H vs Q hr h => ?_)
  · obtain ⟨a, ns, rfl, _⟩ := h
    rfl
  · obtain ⟨a, ns, rfl, ha, kk⟩ := h
    have nd := scLaw.nd
    have hu : (callerA.deeper (envOfC "law" (defScope sLaw) s.heap.objs.size f cdv)).units + 64 < cLine := hr.units
    have hu65 : (callerA.deeper (envOfC "law" (defScope sLaw) s.heap.objs.size f cdv)).units + 65 < cLine := by have := hr.un; omega
    obtain ⟨tC, hC, rC⟩ := law_checks (cdv := cdv) (s := s) (H := H) (f := f) hr B M GT GM GD GO
    refine ⟨_, pss_cons (ps_set (i := 1) nd rfl (Or.inl rfl) (pe_k GS hr (pa_cons (pv 0) pa_nil)))
      (pss_cons (ps_par (i := 2) (j := 3) (by rfl) nd rfl rfl (by decide) rfl rfl (pa_cons (pe_lst pa_nil) (pa_cons (pe_lst pa_nil) pa_nil)) (by rfl))
      (pss_cons (ps_for PassesOwn.never rfl (pi_range1 (by rfl) B.range_ (pa_cons pe_int pa_nil)) (pg_name (i := 4) nd rfl (Or.inl rfl))
        (pss_cons (ps_set (i := 5) nd rfl (Or.inl rfl) (pe_op op_add pe_int (pe_k GR hr (pa_cons (pv 1) (pa_cons pe_int pa_nil)))))
        (pss_cons (ps_set (i := 6) nd rfl (Or.inl rfl) (pe_k GP hr (pa_cons (pv 1) (pa_cons (pv 5) (pa_cons (pe_k GK hr (pa_cons (pv 1) (pa_cons (pe_lst (pa_cons (pe_op op_add pe_int (pe_k GR hr (pa_cons (pv 1) (pa_cons pe_int pa_nil)))) (pa_cons pe_int (pa_cons (pe_weak (te' := tMost) (pe_ifExp (pt_cmpR op_eq (pv 4) pe_int (nomark _)) pe_int pe_int) (fun σ H Q q => ?_)) pa_nil)))) pa_nil))) pa_nil)))))
        (pss_cons (ps_set (i := 7) nd rfl (Or.inl rfl) (pe_k GG hr (pa_cons (pv 1) (pa_cons (pv 5) pa_nil))))
        (C8.pss_cut (ps_if (PW.pt (pw_and (pt_cmpR op_eq (pe_k GR hr (pa_cons (pv 1) (pa_cons pe_int pa_nil))) pe_int (nomark _)) (pw_and (pt_cmpR (op_notInD hu65) (pv 7) (pv 6) (by rfl)) (pw_and1 (pt_cmpR op_lt (pe_callB call_len_seq (by rfl) B.len_ PySem.boot_len (pa_cons (pv 6) pa_nil)) pe_int (nomark _))))))
          (pss_one (ps_expr (pe_bm PySem.F.plainAttrs_list PySem.F.slot_list_insert PySem.F.type_list_insert mt_insert (pv 6) (pa_cons (pe_k GR hr (pa_cons (pv 1) (pa_cons (pe_op op_add (pe_callB call_len_seq (by rfl) B.len_ PySem.boot_len (pa_cons (pv 6) pa_nil)) pe_int) pa_nil))) (pa_cons (pv 7) pa_nil))))) pss_nil)
        hC)))))
      (pss_cons (ps_for PassesOwn.never rfl (pi_zip (by rfl) B.zip_ (pa_cons (pv 3) (pa_cons (pv 2) pa_nil))) (pg_tup (by rfl) (pgs_cons (pg_name (i := 11) nd rfl (Or.inl rfl)) (pgs_cons (pg_name (i := 12) nd rfl (Or.inl rfl)) pgs_nil)))
        (pss_one (ps_for PassesOwn.never rfl (pi_zip (by rfl) B.zip_ (pa_cons (pv 3) (pa_cons (pv 2) pa_nil))) (pg_tup (by rfl) (pgs_cons (pg_name (i := 13) nd rfl (Or.inl rfl)) (pgs_cons (pg_name (i := 14) nd rfl (Or.inl rfl)) pgs_nil)))
          (pss_one (ps_if (pt_cmpR op_ne (pe_cmpR (op_eqD hu) (pv 11) (pv 13) (nomark _)) (pe_cmpR (op_mEq GO hr) (pe_ks GD hr (pv 12)) (pe_ks GD hr (pv 14)) (nomark _)) (nomark _)) pss_never pss_nil)))))
      (pss_cons (ps_setLc (i := 15) (own := [("_law_at", 16)]) (g := gName 16) (tt := tYes) rfl nd rfl rfl rfl (pi_range1 (by rfl) B.range_ (pa_cons pe_int pa_nil)) (blkOk_by (own := [("_law_at", 16)]) (N := NLaw) (sc := defScope sLaw) (by decide +kernel))
          (fun _ _ _ _ _ => pg_name (i := 16) nd rfl (Or.inl rfl)) (fun _ _ _ _ _ => pts_nil)
          (fun _ _ _ _ _ => pe_tup (pa_cons (pe_tup (pa_cons (pv 16) (pa_cons (pe_un un_neg (pv 16)) pa_nil))) (pa_cons (pe_tup (pa_cons (pe_tup (pa_cons (pv 16) (pa_cons pe_int pa_nil))) (pa_cons (pe_tup (pa_cons (pe_tup (pa_cons pe_int (pa_cons pe_int pa_nil))) (pa_cons pe_int pa_nil))) pa_nil))) (pa_cons (pe_tup (pa_cons pe_int (pa_cons (pv 16) pa_nil))) pa_nil)))))
      (pss_one (ps_ret (pe_and (pe_cmpR (op_mEq GO hr) (pe_ks GD hr (pe_k GT hr (pa_cons pe_int (pa_cons (pv 15) pa_nil)))) (pe_kc GM hr (pa_cons pe_int (pa_cons (pv 15) pa_nil))) (nomark _))
        (pe_one (pe_cmpR op_eq (pe_callTy (call_mStr GO hr) (by rfl) B.str_ PyProof.Rows.boot_str (pa_cons (pe_kc GM hr (pa_cons pe_int (pa_cons (pv 15) pa_nil))) pa_nil)) (pe_k GT hr (pa_cons pe_int (pa_cons (pv 15) pa_nil))) (nomark _)))))))))), ?_⟩
    · obtain ⟨⟨x, hx⟩, q⟩ := q
      refine ⟨_, hx, rfl, decide (V.int x = V.int 3), rfl, ?_⟩
      by_cases e : V.int x = V.int 3
      · rw [decide_eq_true e]
        exact iteT (q 60 (.inl rfl))
      · rw [decide_eq_false e]
        exact iteF (q 2 (.inr rfl))
    refine ⟨_, rfl, a, ns, rfl, ha, fun H1 p q cells hp0 hq0 sc1 s1 => ⟨by show 0 ≤ sizeLine; omega, fun lx hlx => ⟨by show 0 ≤ sizeLine; omega, fun lt hlt => ⟨_, _, rfl, ?_⟩⟩⟩⟩
    have nlx : lx ≠ p := sdne sc1 hlx
    have plx : p ≠ lx := sc1.freeP hlx
    have qlx : q ≠ lx := sc1.freeQ hlx
    have sc2 := sc1.put (o := .lst []) plx qlx
    have nlt : lt ≠ p := sdne sc2 hlt
    have plt : p ≠ lt := sc2.freeP hlt
    have qlt : q ≠ lt := sc2.freeQ hlt
    have hxt : lx ≠ lt := ne_of_none upd_same hlt
    have sc3 := sc2.put (o := .lst []) plt qlt
    have fr3 : Fr K (upd (upd H1 lx (.lst [])) lt (.lst [])) lx lt [] := ⟨by rw [upd_ne hxt]; exact upd_same, ⟨[], upd_same, .nil⟩, fun _ h => (List.not_mem_nil h).elim⟩
    generalize upd (upd H1 lx (.lst [])) lt (.lst []) = H3 at sc3 fr3 ⊢
    refine ⟨4, rfl, by decide, by decide, for_it (walk_range (n := 4)) (fun i σ' H' => (∃ x4 x5 x6 x7 x8 x9 x10, σ' = [some (.ref a), some (.ref p), some (.ref lx), some (.ref lt), x4, x5, x6, x7, x8, x9, x10, none, none, none, none, none, none]) ∧ Scr H' p q cells (3000 * i) ∧ ∃ L, L.length = i ∧ Fr K H' lx lt L)
      ⟨⟨_, _, _, _, _, _, _, rfl⟩, sc3, [], rfl, fr3⟩ (fun _ _ _ _ _ => True.intro) ?_ ?_⟩
    · rintro i x σ' H4 H4' hi ⟨⟨x4, x5, x6, x7, x8, x9, x10, rfl⟩, sc4, L, hL, fr4⟩ ⟨e, ex⟩
      subst e
      subst ex
      obtain ⟨xs4, hp4⟩ := sc4.ob1
      refine ⟨_, rfl, p, q, cells, _, 2, rfl, sc4, by omega, by omega, by omega, fun H5 r hr5 sc5 b5 => ⟨_, _, rfl, rfl, ?_⟩⟩
      have fr5 := fr4.but hp4 b5 nlx nlt
      obtain ⟨xs5, hp5⟩ := sc5.ob1
      refine ⟨_, rfl, _, rfl, _, rfl, _, rfl, p, q, cells, _, 8, rfl, sc5, by omega, by omega, by omega, fun H6 r6 hr6 sc6 b6 => ⟨_, _, rfl, rfl, ⟨_, rfl⟩, fun m3 hm3 => ⟨by show 3 ≤ sizeLine; decide, fun l6 hl6 => ?_⟩⟩⟩
      have s7 : Same H6 (upd H6 l6 (.lst [V.int (1 + (r6 : Int)), V.int 1, V.int m3])) := Same.one hl6
      refine ⟨p, q, l6, cells, _, _, rfl, sc6.same s7, by omega, upd_same, sdne sc6 hl6, by show 1 ≤ 3; decide, by show 3 ≤ 1000; decide, fun H8 v hv sc8 b8 => ?_⟩
      have hm : ∃ m : Nat, v = V.int (m : Int) ∧ 1 ≤ m ∧ m ≤ 60 := by
        simp only [List.mem_cons, List.not_mem_nil, or_false] at hv
        rcases hv with rfl | rfl | rfl
        · exact ⟨1 + r6, rfl, by omega, by omega⟩
        · exact ⟨1, rfl, by omega, by omega⟩
        · rcases hm3 with rfl | rfl
          · exact ⟨60, rfl, by omega, by omega⟩
          · exact ⟨2, rfl, by omega, by omega⟩
      obtain ⟨m, rfl, hm1, hm2⟩ := hm
      have b58 : But p H5 H8 := (b6.trans (But.of s7)).trans b8
      have fr8 := fr5.but hp5 b58 nlx nlt
      refine ⟨p, q, cells, _, 1 + r, m, rfl, sc8, by omega, by omega, hm1, hm2, fun H9 lp acc ps hlp e9 d9 ok9 nd9 l19 l29 sc9 b9 => ?_⟩
      have nlp : lp ≠ p := sdne sc8 hlp
      have plp : p ≠ lp := sc8.freeP hlp
      have qlp : q ≠ lp := sc8.freeQ hlp
      have xlp : lx ≠ lp := ne_of_none fr8.tx hlp
      have tlp : lt ≠ lp := by
        obtain ⟨tds, z1, _⟩ := fr8.td
        exact ne_of_none z1 hlp
      obtain ⟨xs8, hp8⟩ := sc8.ob1
      have fr9 := fr8.but hp8 b9 nlx nlt
      have g9 : Good (1 + r) ps := ⟨by omega, by omega, ok9, nd9, l19, by omega⟩
      refine ⟨_, rfl, _, rfl, p, q, cells, _, 1 + r, rfl, sc9, by omega, by omega, fun H10 gv gp hgp hgd sc10 b10 => ?_⟩
      have e10 : H10 lp = some (.lst acc) := b10 _ _ e9 nlp
      have d10 : DpAll K H10 acc (dats ps) := sc9.dpAll b10 (dats_nm ok9) d9
      obtain ⟨xs9, hp9⟩ := sc9.ob1
      have fr10 := fr9.but hp9 b10 nlx nlt
      refine ⟨fun σ' H' => σ' = [some (.ref a), some (.ref p), some (.ref lx), some (.ref lt), some (.int (0 + (i : Int))), some (.int ((1 + r : Nat) : Int)), some (.ref lp), some gv, x8, x9, x10, none, none, none, none, none, none] ∧ ∃ acc ps, H' lp = some (.lst acc) ∧ DpAll K H' acc (dats ps) ∧ Good (1 + r) ps ∧ Scr H' p q cells (3000 * (i + 1)) ∧ Fr K H' lx lt L, ?_, ?_⟩
      · refine ⟨_, rfl, p, q, cells, _, 2, rfl, sc10, by omega, by omega, by omega, fun H11 r11 hr11 sc11 b11 => ⟨rfl, ?_⟩⟩
        have e11 : H11 lp = some (.lst acc) := b11 _ _ e10 nlp
        have d11 : DpAll K H11 acc (dats ps) := sc10.dpAll b11 (dats_nm ok9) d10
        obtain ⟨xs10, hp10⟩ := sc10.ob1
        have fr11 := fr10.but hp10 b11 nlx nlt
        have hgd11 := sc10.dp b11 hgp.nm hgd
        have hal : acc.length = ps.length := by rw [dpAll_len d11, List.length_map]
        have still : Scr H11 p q cells (3000 * (i + 1)) := sc11.mono (by omega)
        by_cases h1 : V.int (r11 : Int) = V.int 0
        · refine ⟨true, congrArg V.bl (decide_eq_true h1), iteT ⟨_, rfl, _, rfl, gp.dat, dats ps, hgd11, .lst (SqL.of e11) d11, Piece.shaped hgp, dats_shapedL ok9, ?_⟩⟩
          rw [dats_any ok9 hgp]
          by_cases hin : gp ∈ ps
          · exact ⟨false, by rw [decide_eq_true hin]; rfl, iteF ⟨rfl, acc, ps, e11, d11, g9, still, fr11⟩⟩
          · refine ⟨true, by rw [decide_eq_false hin]; rfl, iteT ⟨_, rfl, lp, acc, rfl, .inl (SqL.of e11), _, _, rfl, rfl, ?_⟩⟩
            by_cases h3 : ((acc.length : Nat) : Int) < 60
            · refine ⟨true, congrArg V.bl (decide_eq_true h3), iteT ⟨_, rfl, .inl ⟨rfl, _, SqL.of e11⟩, _, rfl, _, rfl, lp, acc, rfl, .inl (SqL.of e11), _, _, rfl, rfl, p, q, cells, _, acc.length + 1, rfl, sc11, by omega, by omega, by omega, fun H12 r12 hr12 sc12 b12 => ?_⟩⟩
              have e12 : H12 lp = some (.lst acc) := b12 _ _ e11 nlp
              have d12 : DpAll K H12 acc (dats ps) := sc11.dpAll b12 (dats_nm ok9) d11
              obtain ⟨xs11, hp11⟩ := sc11.ob1
              have fr12 := fr11.but hp11 b12 nlx nlt
              have hgd12 := sc11.dp b12 hgp.nm hgd11
              have b63 : (2 : Int) ^ 63 = 9223372036854775808 := by decide
              refine ⟨_, rfl, lp, acc, (r12 : Int), gv, rfl, rfl, e12, small_lt (by omega), by omega, by omega, rfl, acc.take r12 ++ [gv] ++ acc.drop r12, ps.take r12 ++ [gp] ++ ps.drop r12, upd_same, ?_, good_ins g9 hgp hin (by omega), (sc12.put plp qlp).mono (by omega), fr12.put e12 xlp tlp⟩
              show DpAll K _ _ ((ps.take r12 ++ [gp] ++ ps.drop r12).map Piece.dat)
              rw [List.map_append, List.map_append, List.map_take, List.map_drop]
              have dd : DpAll K (upd H12 lp (.lst (acc.take r12 ++ [gv] ++ acc.drop r12))) acc (dats ps) := dpAll_put (dats_nm ok9) e12 d12
              exact dpAll_app (dpAll_app (dpAll_take _ dd) (dpAll_one (dp_put hgp.nm e12 hgd12))) (dpAll_drop _ dd)
            · exact ⟨false, congrArg V.bl (decide_eq_false h3), iteF ⟨rfl, acc, ps, e11, d11, g9, still, fr11⟩⟩
        · exact ⟨false, congrArg V.bl (decide_eq_false h1), iteF ⟨rfl, acc, ps, e11, d11, g9, still, fr11⟩⟩
      · rintro σ' H12 ⟨rfl, acc2, ps2, e12, d12, g12, sc12, fr12⟩
        exact rC _ i H12 a p q lx lt lp cells gv _ x8 x9 x10 (1 + r) L acc2 ps2 e12 d12 g12 sc12 fr12 hL hi plx qlx plt qlt hxt fun H' y8 y9 y10 L' hL' sc' fr' => ⟨⟨_, _, _, _, _, _, _, rfl⟩, sc', L', hL', fr'⟩
    · rintro σ' H4 ⟨⟨x4, x5, x6, x7, x8, x9, x10, rfl⟩, sc4, L, hL, fr4⟩
      obtain ⟨tds, t1, t2⟩ := fr4.td
      have x1 := fr4.tx
      have htl : tds.length = L.length := by rw [dpAll_len t2, List.length_map]
      have hmin : L.length = min tds.length (L.map fun e => V.str (txtOf e.1 e.2)).length := by rw [List.length_map, htl, Nat.min_self]
      refine ⟨_, rfl, _, rfl, lt, lx, tds, _, rfl, SqL.of t1, SqL.of x1, for_it (walk_zip hmin) (fun i σ' H' => (∃ x11 x12 x13 x14, σ' = [some (.ref a), some (.ref p), some (.ref lx), some (.ref lt), x4, x5, x6, x7, x8, x9, x10, x11, x12, x13, x14, none, none]) ∧ Same H4 H')
        ⟨⟨_, _, _, _, rfl⟩, Same.refl _⟩ (fun i σ' H' _ h => ⟨SqL.of (h.2 _ _ t1), SqL.of (h.2 _ _ x1)⟩) ?_ ?_⟩
      · rintro i x σ' H5 H5' hi ⟨⟨x11, x12, x13, x14, rfl⟩, s5⟩ ⟨Tn, u, v, rfl, hTn, rfl, hu1, hv1⟩
        have s6 : Same H5 (upd H5 Tn (.tup [u, v])) := Same.one hTn
        have s46 := s5.trans s6
        have q6 : SqT K (upd H5 Tn (.tup [u, v])) Tn [u, v] := .inl (.inl upd_same)
        generalize upd H5 Tn (.tup [u, v]) = H6 at s6 s46 q6 ⊢
        have ei := List.getElem?_eq_getElem hi
        generalize L[i] = e at ei
        have hge := fr4.ok e (List.mem_of_getElem? ei)
        obtain ⟨d, hd, hdu⟩ := dpAll_get t2 hu1
        rw [List.getElem?_map, ei] at hd
        obtain rfl : tdD e = d := by simpa using hd
        replace hv1 : (L.map fun e => V.str (txtOf e.1 e.2))[i]? = some v := hv1
        rw [List.getElem?_map, ei] at hv1
        obtain rfl : V.str (txtOf e.1 e.2) = v := by simpa using hv1
        refine ⟨Tn, _, rfl, q6, rfl, _, _, rfl, _, _, rfl, rfl, ?_⟩
        refine ⟨_, rfl, _, rfl, lt, lx, tds, _, rfl, SqL.of (s46 _ _ t1), SqL.of (s46 _ _ x1), for_it (walk_zip hmin) (fun j σ' H' => (∃ x13 x14, σ' = [some (.ref a), some (.ref p), some (.ref lx), some (.ref lt), x4, x5, x6, x7, x8, x9, x10, some u, some (V.str (txtOf e.1 e.2)), x13, x14, none, none]) ∧ Same H4 H')
          ⟨⟨_, _, rfl⟩, s46⟩ (fun i σ' H' _ h => ⟨SqL.of (h.2 _ _ t1), SqL.of (h.2 _ _ x1)⟩) ?_ ?_⟩
        · rintro j x σ' H7 H7' hj ⟨⟨x13, x14, rfl⟩, s7⟩ ⟨Tm, u2, v2, rfl, hTm, rfl, hu2, hv2⟩
          have s8 : Same H7 (upd H7 Tm (.tup [u2, v2])) := Same.one hTm
          have s48 := s7.trans s8
          have q8 : SqT K (upd H7 Tm (.tup [u2, v2])) Tm [u2, v2] := .inl (.inl upd_same)
          generalize upd H7 Tm (.tup [u2, v2]) = H8 at s8 s48 q8 ⊢
          have ej := List.getElem?_eq_getElem hj
          generalize L[j] = e2 at ej
          have hge2 := fr4.ok e2 (List.mem_of_getElem? ej)
          obtain ⟨d2, hd2, hdu2⟩ := dpAll_get t2 hu2
          rw [List.getElem?_map, ej] at hd2
          obtain rfl : tdD e2 = d2 := by simpa using hd2
          replace hv2 : (L.map fun e => V.str (txtOf e.1 e.2))[j]? = some v2 := hv2
          rw [List.getElem?_map, ej] at hv2
          obtain rfl : V.str (txtOf e2.1 e2.2) = v2 := by simpa using hv2
          refine ⟨Tm, _, rfl, q8, rfl, _, _, rfl, _, _, rfl, rfl, ?_⟩
          refine ⟨_, rfl, _, rfl, tdD e, tdD e2, dp_same s48 _ _ hdu, dp_same s48 _ _ hdu2, td_shaped hge, td_shaped hge2, ?_⟩
          refine ⟨_, rfl, e.1, e.2, rfl, hge.n1, hge.n2, hge.ok, hge.nd, hge.l1, hge.l2, fun H9 y hy0 my s9 => ?_⟩
          refine ⟨_, rfl, e2.1, e2.2, rfl, hge2.n1, hge2.n2, hge2.ok, hge2.nd, hge2.l1, hge2.l2, fun H10 z hz0 mz s10 => ?_⟩
          refine ⟨y, z, e.1, e2.1, e.2, e2.2, rfl, rfl, my.same s10, mz, hge.ok, hge2.ok, rfl, false, ?_, iteF ⟨⟨_, _, rfl⟩, (s48.trans s9).trans s10⟩⟩
          rw [td_eqv hge hge2]
          exact ne_self _
        · rintro σ' H7 ⟨⟨x13, x14, rfl⟩, s7⟩
          exact ⟨⟨_, _, _, _, rfl⟩, s7⟩
      · rintro σ' H5 ⟨⟨x11, x12, x13, x14, rfl⟩, s5⟩
        refine ⟨60, rfl, by decide, by decide, fun D hD => lc_same (walk_range (n := 60)) (small_lt (by omega)) hD (fun i v H => i < 60 ∧ Dp K H v (manyP i).dat) (fun i v H acc acc' hDD ⟨h1, h2⟩ => ⟨h1, dp_put (manyP_ok h1).nm hDD h2⟩) (fun i v H H' e ⟨h1, h2⟩ => ⟨h1, dp_same e _ _ h2⟩) (fun _ _ _ _ => True.intro) (fun _ _ _ _ h => h.1) ?_ ?_⟩
        · rintro i acc x H6 Post hi sm6 hDD6 ⟨_, ex⟩ post
          have ex' : x = V.int (i : Int) := by
            rw [ex]
            show V.int (0 + (i : Int)) = _
            rw [Int.zero_add]
          subst ex'
          refine ⟨rfl, _, rfl, _, rfl, _, rfl, by show 2 ≤ sizeLine; decide, fun t1 h1 => ⟨_, rfl, by show 2 ≤ sizeLine; decide, fun t2 h2 => ⟨by show 2 ≤ sizeLine; decide, fun t3 h3 => ⟨by show 2 ≤ sizeLine; decide, fun t4 h4 => ⟨by show 2 ≤ sizeLine; decide, fun t5 h5 => ⟨_, rfl, by show 2 ≤ sizeLine; decide, fun t6 h6 => ⟨by show 3 ≤ sizeLine; decide, fun t7 h7 => ?_⟩⟩⟩⟩⟩⟩⟩
          have z1 := Same.one (o := .tup [V.int (i : Int), V.int (-(i : Int))]) h1
          have z2 := Same.one (o := .tup [V.int (i : Int), V.int 0]) h2
          have z3 := Same.one (o := .tup [V.int 1, V.int 7]) h3
          have z4 := Same.one (o := .tup [V.ref t3, V.int 1]) h4
          have z5 := Same.one (o := .tup [V.ref t2, V.ref t4]) h5
          have z6 := Same.one (o := .tup [V.int 0, V.int (i : Int)]) h6
          have z7 := Same.one (o := .tup [V.ref t1, V.ref t5, V.ref t6]) h7
          have z67 := Same.trans z6 z7
          have z57 := Same.trans z5 z67
          have z47 := Same.trans z4 z57
          have z37 := Same.trans z3 z47
          have z27 := Same.trans z2 z37
          have z17 := Same.trans z1 z27
          refine post _ _ z17 ⟨hi, ?_⟩
          show Dp K _ (.ref t7) (.tuple [.tuple [.int (i : Int), .int (-(i : Int))], .tuple [.tuple [.int (i : Int), .int 0], .tuple [.tuple [.int 1, .int 7], .int 1]], .tuple [.int 0, .int (i : Int)]])
          have a1 := z27 _ _ (upd_same (o := .tup [V.int (i : Int), V.int (-(i : Int))]))
          have a2 := z37 _ _ (upd_same (o := .tup [V.int (i : Int), V.int 0]))
          have a3 := z47 _ _ (upd_same (o := .tup [V.int 1, V.int 7]))
          have a4 := z57 _ _ (upd_same (o := .tup [V.ref t3, V.int 1]))
          have a5 := z67 _ _ (upd_same (o := .tup [V.ref t2, V.ref t4]))
          have a6 := z7 _ _ (upd_same (o := .tup [V.int 0, V.int (i : Int)]))
          exact .tup (.inl (.inl upd_same)) (.cons (.tup (.inl (.inl a1)) (.cons (.int _) (.cons (.int _) .nil))) (.cons (.tup (.inl (.inl a5)) (.cons (.tup (.inl (.inl a2)) (.cons (.int _) (.cons (.int _) .nil)))
            (.cons (.tup (.inl (.inl a4)) (.cons (.tup (.inl (.inl a3)) (.cons (.int _) (.cons (.int _) .nil))) (.cons (.int _) .nil))) .nil))) (.cons (.tup (.inl (.inl a6)) (.cons (.int _) (.cons (.int _) .nil))) .nil)))
        · intro ys H6 hlen hT sm6 hDD6
          have gm := many_good
          have hall : DpAll K H6 ys (dats manyPs) := all_of (by rw [hlen]; rfl) fun i v hv => by
            obtain ⟨h1, h2⟩ := hT i v hv
            refine ⟨manyP i, ?_, h2⟩
            unfold manyPs
            rw [List.getElem?_map, List.getElem?_range h1]
            rfl
          have make : ∀ {H0 : Hp} {x dx : Addr}, Same H6 H0 → H0 x = none → H0 dx = none → dx ≠ x → ∀ {R : Hp → Prop}, (∀ H', MachAt K C H' x 2 manyPs → Same H0 H' → R H') → spMachInit K C [.ref x, .int 2, .ref D] (upd (upd H0 dx (.own x)) x (.ins C dx [])) (fun v H2 => v = .non ∧ R H2) E0 := fun {H0 x dx} s0 hx hdx hne {R} k2 => by
            have hx1 : (upd H0 dx (.own x)) x = none := by rw [upd_ne (Ne.symm hne)]; exact hx
            have sN : Same H0 (upd (upd H0 dx (.own x)) x (.ins C dx [])) := Same.new (Same.one hdx) hx1
            have s6N := s0.trans sN
            refine ⟨x, dx, D, ys, 2, manyPs, rfl, upd_same, SqL.of (s6N _ _ hDD6), dpAll_same s6N _ _ hall, gm.n1, gm.n2, gm.ok, gm.nd, gm.l1, gm.l2, fun H' hm b => ⟨rfl, k2 H' hm fun c o hc => b c o (sN c o hc) (ne_of_none hc hx)⟩⟩
          refine ⟨_, rfl, 2, D, ys, manyPs, rfl, SqL.of hDD6, hall, gm.n2, gm.ok, gm.l2, fun H7 s7 => ?_⟩
          refine ⟨2, manyPs, rfl, gm.n1, gm.n2, gm.ok, gm.nd, gm.l1, gm.l2, fun H8 y hy0 my s8 => ?_⟩
          refine ⟨_, rfl, fun x dx hx hdx hne => make (s7.trans s8) hx hdx hne fun H9 mx s9 => ?_⟩
          refine ⟨y, x, 2, 2, manyPs, manyPs, rfl, rfl, my.same s9, mx, gm.ok, gm.ok, true, by simp, iteT ?_⟩
          refine ⟨_, rfl, fun x2 dx2 hx2 hdx2 hne2 => make ((s7.trans s8).trans s9) hx2 hdx2 hne2 fun H10 mx2 s10 => ?_⟩
          refine ⟨x2, 2, manyPs, rfl, mx2, gm.n2, gm.ok, gm.l2, fun H11 s11 => ?_⟩
          have s611 := (((s7.trans s8).trans s9).trans s10).trans s11
          refine ⟨_, rfl, 2, D, ys, manyPs, rfl, SqL.of (s611 _ _ hDD6), dpAll_same s611 _ _ hall, gm.n2, gm.ok, gm.l2, fun H12 s12 => ⟨rfl, ?_⟩⟩
          show Q (V.bl (decide (V.str (txtOf 2 manyPs) = V.str (txtOf 2 manyPs)))) H12
          rw [decide_eq_true rfl]
          exact kk _
end
end K6

set_option maxRecDepth 100000
set_option maxHeartbeats 4000000
/-! KEndAll: all of it together. -/
namespace K6
open PySem PySem.Spec PyProof.Rows L2

section
variable {K : PySem.W.Frag} {h : Heap} {mg : Str → Option Value}
theorem fx_mk {n : Str} {st : Stmt} {f : Addr} {oc : Value} {od an : Option Addr} {osl : Array (Option Value)} {kV doc pm cdv ct : Value} (X : K.In h) (G : h.Ns mainGlobals mg) (a : PySem.W.nsIn K mainGlobals n = some (some (.ref f)))
    (l : K.lookup f = some ⟨oc, od, .func (PySem.W.fnOf n n (defArgs st) (defBody st) (defScope st) .none kV doc pm an cdv ct), osl⟩) (c : PySem.W.codeIn K cdv n = true) (k : PySem.W.keepIn K (.ref f) = true) : Fx K mg n st f :=
  ⟨⟨_, fun_mk l c k⟩, PySem.W.mg_of X G a⟩
theorem fm_mk {C : Addr} {m qual : Str} {st : Stmt} {f : Addr} {oc : Value} {od an : Option Addr} {osl : Array (Option Value)} {kV doc pm cdv ct : Value} (a : PySem.W.findIn K (.ref C) m = some (some (.ref f))) (i : PySem.W.isFn K (.ref f) = true)
    (l : K.lookup f = some ⟨oc, od, .func (PySem.W.fnOf m qual (defArgs st) (defBody st) (defScope st) .none kV doc pm an cdv ct), osl⟩) (c : PySem.W.codeIn K cdv qual = true) (k : PySem.W.keepIn K (.ref f) = true) : Fm K C m qual st :=
  ⟨⟨f, _, fun_mk l c k, ⟨a, i, k⟩⟩⟩
theorem fi_mk {C : Addr} {x qual : Str} {st : Stmt} {f : Addr} {oc : Value} {od an : Option Addr} {osl : Array (Option Value)} {kV doc pm cdv ct : Value} (X : K.In h) (G : h.Ns mainGlobals mg) (aC : PySem.W.nsIn K mainGlobals x = some (some (.ref C))) (mk : PySem.W.makesIn K C = true) (kc : PySem.W.keepIn K (.ref C) = true)
    (a : PySem.W.findIn K (.ref C) "__init__" = some (some (.ref f))) (i : PySem.W.isFn K (.ref f) = true)
    (l : K.lookup f = some ⟨oc, od, .func (PySem.W.fnOf "__init__" qual (defArgs st) (defBody st) (defScope st) .none kV doc pm an cdv ct), osl⟩) (c : PySem.W.codeIn K cdv qual = true) (k : PySem.W.keepIn K (.ref f) = true) : Fi K mg C x qual st :=
  ⟨⟨f, _, fun_mk l c k, ⟨mk, a, i, kc⟩⟩, PySem.W.mg_of X G aC⟩
theorem fmD_mk {C : Addr} {m qual : Str} {st : Stmt} {f T : Addr} {oc : Value} {od an : Option Addr} {osl : Array (Option Value)} {kV doc pm cdv ct : Value} {o : Obj} {nn : Nat} (a : PySem.W.findIn K (.ref C) m = some (some (.ref f))) (i : PySem.W.isFn K (.ref f) = true)
    (l : K.lookup f = some ⟨oc, od, .func (PySem.W.fnOf m qual (defArgs st) (defBody st) (defScope st) (.ref T) kV doc pm an cdv ct), osl⟩) (c : PySem.W.codeIn K cdv qual = true) (k : PySem.W.keepIn K (.ref f) = true)
    (t : K.lookup T = some o) (d : o.data = .seq [Value.none, Value.none].toArray nn) : FmD K C m qual st [.non, .non] :=
  ⟨⟨f, _, ⟨⟨oc, od, .ref T, kV, doc, pm, an, cdv, ct, osl, rfl, l, c, .inr ⟨by simp, T, o, _, nn, rfl, t, d, .cons rfl (.cons rfl .nil)⟩, .inl rfl⟩, k⟩, ⟨a, i, k⟩⟩⟩
theorem fst_mk {C g p : Addr} {mc : Value} {rest : List Value} {m qual : Str} {st : Stmt} {oc : Value} {od an : Option Addr} {osl : Array (Option Value)} {kV doc pm cdv ct : Value} (rd : PySem.W.readsIn K C mc = true) (ga : PySem.W.specialIn K (.ref C) "__getattribute__" = some (some (.builtin "type.__getattribute__")))
    (a1 : PySem.W.findCls K (.ref C) mc m = some (.get (.builtin "staticmethod.__get__") (.ref p) .none (.ref C))) (a2 : PySem.W.recIn K p "staticmethod" = some (.ref g :: rest))
    (l : K.lookup g = some ⟨oc, od, .func (PySem.W.fnOf m qual (defArgs st) (defBody st) (defScope st) .none kV doc pm an cdv ct), osl⟩) (c : PySem.W.codeIn K cdv qual = true) (k : PySem.W.keepIn K (.ref g) = true) : Fst K C m qual st :=
  ⟨⟨mc, g, _, fun_mk l c k, ⟨rd, ga, ⟨p, rest, a1, a2⟩, k⟩⟩⟩
/-- ==, str of the class, as the top leaves them -/
structure Fown (K : PySem.W.Frag) (C : Addr) : Prop where
  ex : ∃ fE fdE fS fdS, Fun K "__eq__" "Machine.__eq__" sMachineEq fE fdE ∧ Fun K "__str__" "Machine.__str__" sMachineStr fS fdS ∧ OwnOps K C fE fS
theorem fown_mk {C fE fS : Addr} {oc oc2 : Value} {od an od2 an2 : Option Addr} {osl osl2 : Array (Option Value)} {kV doc pm cdv ct kV2 doc2 pm2 cdv2 ct2 : Value} (a : PySem.W.findIn K (.ref C) "__eq__" = some (some (.ref fE))) (i : PySem.W.isFn K (.ref fE) = true)
    (l : K.lookup fE = some ⟨oc, od, .func (PySem.W.fnOf "__eq__" "Machine.__eq__" (defArgs sMachineEq) (defBody sMachineEq) (defScope sMachineEq) .none kV doc pm an cdv ct), osl⟩) (c : PySem.W.codeIn K cdv "Machine.__eq__" = true) (k : PySem.W.keepIn K (.ref fE) = true)
    (a2 : PySem.W.findIn K (.ref C) "__str__" = some (some (.ref fS))) (i2 : PySem.W.isFn K (.ref fS) = true)
    (l2 : K.lookup fS = some ⟨oc2, od2, .func (PySem.W.fnOf "__str__" "Machine.__str__" (defArgs sMachineStr) (defBody sMachineStr) (defScope sMachineStr) .none kV2 doc2 pm2 an2 cdv2 ct2), osl2⟩) (c2 : PySem.W.codeIn K cdv2 "Machine.__str__" = true) (k2 : PySem.W.keepIn K (.ref fS) = true)
    (ne : PySem.W.findIn K (.ref C) "__ne__" = some (some (.builtin "object.__ne__"))) (ob : PySem.W.subIn K (.ref C) (.type "object") = some true) : Fown K C :=
  ⟨⟨fE, _, fS, _, fun_mk l c k, fun_mk l2 c2 k2, ⟨a, i, ne, ob, a2, i2⟩⟩⟩
theorem sct_mk {C : Addr} (pg : PySem.W.plainGet K C Str.empty = true) (hd : PySem.W.hasDictIn K C = true) (po : PySem.W.plainOver K C = true) (sa : PySem.W.findIn K (.ref C) "__setattr__" = some (some (.builtin "object.__setattr__")))
    (nW : PySem.W.findIn K (.ref C) "words" = some none) (nA : PySem.W.findIn K (.ref C) "at" = some none) : ScT K C := ⟨⟨pg, hd, po, sa⟩, nW, nA⟩
theorem kit_self {C : Addr} : PySem.W.kitOne K (.ref C) (.ref C) = some true := by
  unfold PySem.W.kitOne
  exact if_pos (by simp)
theorem mct_mk {C : Addr} (X : K.In h) (G : h.Ns mainGlobals mg) (aC : PySem.W.nsIn K mainGlobals "Machine" = some (some (.ref C))) (pg : PySem.W.plainGet K C Str.empty = true) (hd : PySem.W.hasDictIn K C = true) (po : PySem.W.plainOver K C = true) (sa : PySem.W.findIn K (.ref C) "__setattr__" = some (some (.builtin "object.__setattr__")))
    (nW : PySem.W.findIn K (.ref C) "wide" = some none) (nP : PySem.W.findIn K (.ref C) "pieces" = some none) (ha : PySem.W.findIn K (.ref C) "__class__" = some (some (.builtin "object.__class__"))) (hn : PySem.W.specialIn K (.builtin "object.__class__") "__get__" = some (some (.builtin "getset_descriptor.__get__")))
    (htk : PySem.W.takesIn K (.builtin "object.__class__") = some true) (hm : PySem.W.mroIn K C (.type "object") = some true) : McT K mg C := ⟨⟨⟨pg, hd, po, sa⟩, ha, hn, htk, hm, kit_self⟩, nW, nP, PySem.W.mg_of X G aC⟩
theorem bt_mk (X : K.In h) (G : h.Ns mainGlobals mg) (z1 : PySem.W.nsIn K mainGlobals "isinstance" = some none) (z2 : PySem.W.nsIn K mainGlobals "int" = some none) (z3 : PySem.W.nsIn K mainGlobals "bool" = some none) (z4 : PySem.W.nsIn K mainGlobals "list" = some none) (z5 : PySem.W.nsIn K mainGlobals "tuple" = some none)
    (z6 : PySem.W.nsIn K mainGlobals "str" = some none) (z7 : PySem.W.nsIn K mainGlobals "len" = some none) (z8 : PySem.W.nsIn K mainGlobals "all" = some none) (z9 : PySem.W.nsIn K mainGlobals "abs" = some none) (z10 : PySem.W.nsIn K mainGlobals "set" = some none) (z11 : PySem.W.nsIn K mainGlobals "range" = some none)
    (z12 : PySem.W.nsIn K mainGlobals "zip" = some none) (z13 : PySem.W.nsIn K mainGlobals "repr" = some none) : Bt mg :=
  ⟨PySem.W.mg_none_of X G z1, PySem.W.mg_none_of X G z2, PySem.W.mg_none_of X G z3, PySem.W.mg_none_of X G z4, PySem.W.mg_none_of X G z5, PySem.W.mg_none_of X G z6, PySem.W.mg_none_of X G z7, PySem.W.mg_none_of X G z8, PySem.W.mg_none_of X G z9, PySem.W.mg_none_of X G z10, PySem.W.mg_none_of X G z11, PySem.W.mg_none_of X G z12, PySem.W.mg_none_of X G z13⟩
theorem cn_mk {t1 t2 t3 t4 t5 t6 t7 t8 t9 : Tok} (X : K.In h) (G : h.Ns mainGlobals mg) (z1 : PySem.W.nsIn K mainGlobals "LEAST_UNDER" = some (some (.int 2 t1))) (z2 : PySem.W.nsIn K mainGlobals "SMALL_ABOVE" = some (some (.int 1000000 t2))) (z3 : PySem.W.nsIn K mainGlobals "SMALL_UNDER" = some (some (.int 1000 t3)))
    (z4 : PySem.W.nsIn K mainGlobals "BAR" = some (some (.str "/" t4))) (z5 : PySem.W.nsIn K mainGlobals "FIGURES" = some (some (.str "0123456789" t5))) (z6 : PySem.W.nsIn K mainGlobals "MOST_FIGURES" = some (some (.int 140 t6))) (z7 : PySem.W.nsIn K mainGlobals "MOST_WIDE" = some (some (.int 2 t7)))
    (z8 : PySem.W.nsIn K mainGlobals "MOST_PIECES" = some (some (.int 60 t8))) (z9 : PySem.W.nsIn K mainGlobals "FARTHEST" = some (some (.int 1000 t9))) : Cn mg :=
  ⟨⟨_, PySem.W.mg_of X G z1⟩, ⟨_, PySem.W.mg_of X G z2⟩, ⟨_, PySem.W.mg_of X G z3⟩, ⟨_, PySem.W.mg_of X G z4⟩, ⟨_, PySem.W.mg_of X G z5⟩, ⟨_, PySem.W.mg_of X G z6⟩, ⟨_, PySem.W.mg_of X G z7⟩, ⟨_, PySem.W.mg_of X G z8⟩, ⟨_, PySem.W.mg_of X G z9⟩⟩
end
theorem join_all {l : PySem.W.OpenLaw} {w : World} {K : PySem.W.Frag} {mg : Str → Option Value} {fa S C f1 f2 f3 f4 f5 f6 f7 f8 f9 f10 f11 f12 f13 f14 f15 f16 f17 f18 f19 f20 g1 g2 g3 g4 g5 g6 g7 g8 g9 g10 fL : Addr} (hfa : mg "law" = some (.ref fa)) (B : Bt mg) (N : Cn mg)
    (F1 : Fx K mg "is_integer" sIsInteger f1) (F2 : Fx K mg "is_within" sIsWithin f2) (F3 : Fx K mg "is_list" sIsList f3) (F4 : Fx K mg "halves" sHalves f4) (F5 : Fx K mg "common" sCommon f5) (F6 : Fx K mg "lowest_in" sLowestIn f6) (F7 : Fx K mg "text_in" sTextIn f7) (F8 : Fx K mg "is_number" sIsNumber f8) (F9 : Fx K mg "is_small" sIsSmall f9) (F10 : Fx K mg "kept_number" sKeptNumber f10)
    (F11 : Fx K mg "written" sWritten f11) (F12 : Fx K mg "written_fraction" sWrittenFraction f12) (F13 : Fx K mg "is_row" sIsRow f13) (F14 : Fx K mg "is_corner" sIsCorner f14) (F15 : Fx K mg "is_piece" sIsPiece f15) (F16 : Fx K mg "kept_row" sKeptRow f16) (F17 : Fx K mg "kept_piece" sKeptPiece f17) (F18 : Fx K mg "are_unlike" sAreUnlike f18)
    (F19 : Fx K mg "items_in" sItemsIn f19) (F20 : Fx K mg "piece_in" sPieceIn f20)
    (ST : ScT K S) (S1 : Fi K mg S "Scan" "Scan.__init__" sScanInit) (S2 : Fm K S "ahead" "Scan.ahead" sAhead) (S3 : Fm K S "take" "Scan.take" sTake) (S4 : Fm K S "take_just" "Scan.take_just" sTakeJust) (S5 : FmD K S "take_number" "Scan.take_number" sTakeNumber [.non, .non]) (S6 : Fm K S "take_fraction" "Scan.take_fraction" sTakeFraction) (S7 : Fm K S "finish" "Scan.finish" sFinish)
    (MT : McT K mg C) (M1 : Fi K mg C "Machine" "Machine.__init__" sMachineInit) (M2 : Fown K C) (M3 : Fst K C "read" "Machine.read" sRead)
    (L1 : Fx K mg "_law_scroll" sScroll g1) (L2 : Fx K mg "_law_roll_by" sRollBy g2) (L3 : Fx K mg "_law_pick" sPick g3) (L4 : Fx K mg "_law_form" sForm g4) (L5 : Fx K mg "_law_number" sNumber g5) (L6 : Fx K mg "_law_piece" sPiece g6) (L7 : Fx K mg "_law_pieces" sPieces g7) (L8 : Fx K mg "_law_written" sLawWritten g8) (L9 : Fx K mg "_law_text" sText g9) (L10 : Fx K mg "_law_great" sGreat g10)
    (LL : Fx K mg "law" sLaw fL) :
    ∃ fd : FuncData, (∀ (s : Shared) (v : Value), BindsTo s fd ⟨[v], []⟩ [("_law_script", v)]) ∧ ∀ base : Heap, K.In base → base.Ns mainGlobals mg → LawOk l.prog w K mg base fa fd "_law_script" (spLaw K) := by
  have e := hfa.symm.trans LL.at_
  cases e
  obtain ⟨fd, FL⟩ := LL.fn
  refine ⟨fd, ?_, fun base _ _ => ?_⟩
  · obtain ⟨oc, od, kV, doc, pm, an, cdv, ct, osl, rfl, _, _⟩ := FL.ex
    exact fun s v => .of_eq rfl
  · have k1 := ok_isInteger (P := l.prog) (w := w) (base := base) B F1
    have k2 := ok_isWithin (P := l.prog) (w := w) (base := base) B F2 k1
    have k3 := ok_isList (P := l.prog) (w := w) (base := base) B F3
    have k4 := ok_halves (P := l.prog) (w := w) (base := base) F4 k1
    have k5 := ok_common (P := l.prog) (w := w) (base := base) B F5
    have k6 := ok_lowestIn (P := l.prog) (w := w) (base := base) F6 k5
    have k7 := ok_textIn (P := l.prog) (w := w) (base := base) B F7 k1
    have k8 := ok_isNumber (P := l.prog) (w := w) (base := base) B N F8 k3 k1 k2 k5
    have k9 := ok_isSmall (P := l.prog) (w := w) (base := base) B N F9 k8 k4
    have k10 := ok_keptNumber (P := l.prog) (w := w) (base := base) B F10 k3
    have k11 := ok_written (P := l.prog) (w := w) (base := base) B N F11
    have k12 := ok_writtenFraction (P := l.prog) (w := w) (base := base) B N F12 k11 k6
    have k13 := ok_isRow (P := l.prog) (w := w) (base := base) B F13 k3 k9
    have k14 := ok_isCorner (P := l.prog) (w := w) (base := base) B N F14 k3 k2
    have k15 := ok_isPiece (P := l.prog) (w := w) (base := base) B F15 k3 k14 k13
    have k16 := ok_keptRow (P := l.prog) (w := w) (base := base) B F16 k10
    have k17 := ok_keptPiece (P := l.prog) (w := w) (base := base) B F17 k16
    have k18 := ok_areUnlike (P := l.prog) (w := w) (base := base) B F18
    have k19 := ok_itemsIn (P := l.prog) (w := w) (base := base) B N F19 k7
    have s1 := ok_scanInit (P := l.prog) (w := w) (base := base) B ST S1
    have s2 := ok_ahead (P := l.prog) (w := w) (base := base) (mg := mg) B ST S2
    have s3 := ok_take (P := l.prog) (w := w) (base := base) (mg := mg) ST S3 s2
    have s4 := ok_takeJust (P := l.prog) (w := w) (base := base) (mg := mg) ST S4 s2 s3
    have s5 := ok_takeNumber (P := l.prog) (w := w) (base := base) (mg := mg) ST S5 s2 k11 k2
    have s6 := ok_takeFraction (P := l.prog) (w := w) (base := base) (mg := mg) ST S6 s2 k12 k9
    have s7 := ok_finish (P := l.prog) (w := w) (base := base) (mg := mg) B ST S7
    have k20 := ok_pieceIn (P := l.prog) (w := w) (base := base) B N ST F20 s4 s5 s6 F9.at_
    have m1 := ok_machInit (P := l.prog) (w := w) (base := base) B N MT M1 k2 k3 k15 k17 k18
    obtain ⟨fE, fdE, fS, fdS, e1, e2, O⟩ := M2.ex
    have m2 := ok_machEq (P := l.prog) (w := w) (base := base) B MT e1
    have m3 := ok_machStr (P := l.prog) (w := w) (base := base) B MT e2 k19
    have m4 := ok_read (P := l.prog) (w := w) (base := base) B N ST MT M3 s1 m1 s2 s7 s5 k20 k18
    have l1 := ok_scroll (P := l.prog) (w := w) (base := base) B L1
    have l2 := ok_rollBy (P := l.prog) (w := w) (base := base) B L2
    have l3 := ok_pick (P := l.prog) (w := w) (base := base) B L3 l2
    have l4 := ok_form (P := l.prog) (w := w) (base := base) B L4
    have l5 := ok_number (P := l.prog) (w := w) (base := base) L5 l2 l3 l4
    have l6 := ok_piece (P := l.prog) (w := w) (base := base) B L6 l2 l5
    have l7 := ok_pieces (P := l.prog) (w := w) (base := base) B L7 l6
    have l8 := ok_lawWritten (P := l.prog) (w := w) (base := base) B L8
    have l9 := ok_text (P := l.prog) (w := w) (base := base) B L9 l8
    have l10 := ok_great (P := l.prog) (w := w) (base := base) B L10 l3
    exact ok_law (S := S) ⟨rfl, by decide, by decide⟩ B MT FL l1 l2 l3 l10 l7 l9 m1 m4 ⟨⟨fE, fS, O, m2, m3⟩⟩
end K6

open PySem PySem.W PyProof.Rows in
set_option maxRecDepth 100000 in
set_option maxHeartbeats 0 in
theorem PySem.Challenge.cw_timesfloor_k06_whole_texts_of_machines_holds : PySem.Challenge.rw_timesfloor_k06_whole_texts_of_machines.Holds := by
  w_on; o_law; k_head; (case hw => w_witness2)
  k_fill
  refine K6.lawWalk (l := PySem.Challenge.rw_timesfloor_k06_whole_texts_of_machines) (x := "_law_script") (sp := K6.spLaw) rfl (by decide) rfl (fun w h Y => PySem.W.kIn_of Y) ?qF ?qS
  case qS =>
    intro K H a ns hlen hS
    exact ⟨a, ns, rfl, hS, fun _ => rfl⟩
  case qF =>
    intro w mg fa h KX G hmg
    refine' K6.join_all hmg ?qB ?qN ?qF1 ?qF2 ?qF3 ?qF4 ?qF5 ?qF6 ?qF7 ?qF8 ?qF9 ?qF10 ?qF11 ?qF12 ?qF13 ?qF14 ?qF15 ?qF16 ?qF17 ?qF18 ?qF19 ?qF20 ?qST ?qS1 ?qS2 ?qS3 ?qS4 ?qS5 ?qS6 ?qS7 ?qMT ?qM1 ?qM2 ?qM3 ?qL1 ?qL2 ?qL3 ?qL4 ?qL5 ?qL6 ?qL7 ?qL8 ?qL9 ?qL10 ?qLL
    (case qB => (refine' K6.bt_mk KX G ?qz1 ?qz2 ?qz3 ?qz4 ?qz5 ?qz6 ?qz7 ?qz8 ?qz9 ?qz10 ?qz11 ?qz12 ?qz13; (case qz1 => k_is); (case qz2 => k_is); (case qz3 => k_is); (case qz4 => k_is); (case qz5 => k_is); (case qz6 => k_is); (case qz7 => k_is); (case qz8 => k_is); (case qz9 => k_is); (case qz10 => k_is); (case qz11 => k_is); (case qz12 => k_is); (case qz13 => k_is)))
    (case qN => (refine' K6.cn_mk KX G ?qz1 ?qz2 ?qz3 ?qz4 ?qz5 ?qz6 ?qz7 ?qz8 ?qz9; (case qz1 => k_is); (case qz2 => k_is); (case qz3 => k_is); (case qz4 => k_is); (case qz5 => k_is); (case qz6 => k_is); (case qz7 => k_is); (case qz8 => k_is); (case qz9 => k_is)))
    (case qF1 => (refine' K6.fx_mk KX G ?qa ?ql ?qc ?qk; (case qa => k_is); (case ql => k_is); (case qc => k_is); (case qk => k_is)))
    (case qF2 => (refine' K6.fx_mk KX G ?qa ?ql ?qc ?qk; (case qa => k_is); (case ql => k_is); (case qc => k_is); (case qk => k_is)))
    (case qF3 => (refine' K6.fx_mk KX G ?qa ?ql ?qc ?qk; (case qa => k_is); (case ql => k_is); (case qc => k_is); (case qk => k_is)))
    (case qF4 => (refine' K6.fx_mk KX G ?qa ?ql ?qc ?qk; (case qa => k_is); (case ql => k_is); (case qc => k_is); (case qk => k_is)))
    (case qF5 => (refine' K6.fx_mk KX G ?qa ?ql ?qc ?qk; (case qa => k_is); (case ql => k_is); (case qc => k_is); (case qk => k_is)))
    (case qF6 => (refine' K6.fx_mk KX G ?qa ?ql ?qc ?qk; (case qa => k_is); (case ql => k_is); (case qc => k_is); (case qk => k_is)))
    (case qF7 => (refine' K6.fx_mk KX G ?qa ?ql ?qc ?qk; (case qa => k_is); (case ql => k_is); (case qc => k_is); (case qk => k_is)))
    (case qF8 => (refine' K6.fx_mk KX G ?qa ?ql ?qc ?qk; (case qa => k_is); (case ql => k_is); (case qc => k_is); (case qk => k_is)))
    (case qF9 => (refine' K6.fx_mk KX G ?qa ?ql ?qc ?qk; (case qa => k_is); (case ql => k_is); (case qc => k_is); (case qk => k_is)))
    (case qF10 => (refine' K6.fx_mk KX G ?qa ?ql ?qc ?qk; (case qa => k_is); (case ql => k_is); (case qc => k_is); (case qk => k_is)))
    (case qF11 => (refine' K6.fx_mk KX G ?qa ?ql ?qc ?qk; (case qa => k_is); (case ql => k_is); (case qc => k_is); (case qk => k_is)))
    (case qF12 => (refine' K6.fx_mk KX G ?qa ?ql ?qc ?qk; (case qa => k_is); (case ql => k_is); (case qc => k_is); (case qk => k_is)))
    (case qF13 => (refine' K6.fx_mk KX G ?qa ?ql ?qc ?qk; (case qa => k_is); (case ql => k_is); (case qc => k_is); (case qk => k_is)))
    (case qF14 => (refine' K6.fx_mk KX G ?qa ?ql ?qc ?qk; (case qa => k_is); (case ql => k_is); (case qc => k_is); (case qk => k_is)))
    (case qF15 => (refine' K6.fx_mk KX G ?qa ?ql ?qc ?qk; (case qa => k_is); (case ql => k_is); (case qc => k_is); (case qk => k_is)))
    (case qF16 => (refine' K6.fx_mk KX G ?qa ?ql ?qc ?qk; (case qa => k_is); (case ql => k_is); (case qc => k_is); (case qk => k_is)))
    (case qF17 => (refine' K6.fx_mk KX G ?qa ?ql ?qc ?qk; (case qa => k_is); (case ql => k_is); (case qc => k_is); (case qk => k_is)))
    (case qF18 => (refine' K6.fx_mk KX G ?qa ?ql ?qc ?qk; (case qa => k_is); (case ql => k_is); (case qc => k_is); (case qk => k_is)))
    (case qF19 => (refine' K6.fx_mk KX G ?qa ?ql ?qc ?qk; (case qa => k_is); (case ql => k_is); (case qc => k_is); (case qk => k_is)))
    (case qF20 => (refine' K6.fx_mk KX G ?qa ?ql ?qc ?qk; (case qa => k_is); (case ql => k_is); (case qc => k_is); (case qk => k_is)))
    (case qS1 => (refine' K6.fi_mk KX G ?qaC ?qmk ?qkc ?qa ?qi ?ql ?qc ?qk; (case qaC => k_is); (case qmk => k_is); (case qkc => k_is); (case qa => k_is); (case qi => k_is); (case ql => k_is); (case qc => k_is); (case qk => k_is)))
    (case qST => (refine' K6.sct_mk ?qpg ?qhd ?qpo ?qsa ?qnW ?qnA; (case qpg => k_is); (case qhd => k_is); (case qpo => k_is); (case qsa => k_is); (case qnW => k_is); (case qnA => k_is)))
    (case qS2 => (refine' K6.fm_mk ?qa ?qi ?ql ?qc ?qk; (case qa => k_is); (case qi => k_is); (case ql => k_is); (case qc => k_is); (case qk => k_is)))
    (case qS3 => (refine' K6.fm_mk ?qa ?qi ?ql ?qc ?qk; (case qa => k_is); (case qi => k_is); (case ql => k_is); (case qc => k_is); (case qk => k_is)))
    (case qS4 => (refine' K6.fm_mk ?qa ?qi ?ql ?qc ?qk; (case qa => k_is); (case qi => k_is); (case ql => k_is); (case qc => k_is); (case qk => k_is)))
    (case qS6 => (refine' K6.fm_mk ?qa ?qi ?ql ?qc ?qk; (case qa => k_is); (case qi => k_is); (case ql => k_is); (case qc => k_is); (case qk => k_is)))
    (case qS7 => (refine' K6.fm_mk ?qa ?qi ?ql ?qc ?qk; (case qa => k_is); (case qi => k_is); (case ql => k_is); (case qc => k_is); (case qk => k_is)))
    (case qS5 => (refine' K6.fmD_mk ?qa ?qi ?ql ?qc ?qk ?qt ?qd; (case qa => k_is); (case qi => k_is); (case ql => k_is); (case qc => k_is); (case qk => k_is); (case qt => k_is); (case qd => rfl)))
    (case qMT => (refine' K6.mct_mk KX G ?qaC ?qpg ?qhd ?qpo ?qsa ?qnW ?qnP ?qha ?qhn ?qhtk ?qhm; (case qaC => k_is); (case qpg => k_is); (case qhd => k_is); (case qpo => k_is); (case qsa => k_is); (case qnW => k_is); (case qnP => k_is); (case qha => k_is); (case qhn => k_is); (case qhtk => k_is); (case qhm => k_is)))
    (case qM1 => (refine' K6.fi_mk KX G ?qaC ?qmk ?qkc ?qa ?qi ?ql ?qc ?qk; (case qaC => k_is); (case qmk => k_is); (case qkc => k_is); (case qa => k_is); (case qi => k_is); (case ql => k_is); (case qc => k_is); (case qk => k_is)))
    (case qM2 => (refine' K6.fown_mk ?qa ?qi ?ql ?qc ?qk ?qa2 ?qi2 ?ql2 ?qc2 ?qk2 ?qne ?qob; (case qa => k_is); (case qi => k_is); (case ql => k_is); (case qc => k_is); (case qk => k_is); (case qa2 => k_is); (case qi2 => k_is); (case ql2 => k_is); (case qc2 => k_is); (case qk2 => k_is); (case qne => k_is); (case qob => k_is)))
    (case qM3 => (refine' K6.fst_mk (mc := .type "type") ?qrd ?qga ?qa1 ?qa2 ?ql ?qc ?qk; (case qrd => k_is); (case qga => k_is); (case qa1 => k_is); (case qa2 => k_is); (case ql => k_is); (case qc => k_is); (case qk => k_is)))
    (case qL1 => (refine' K6.fx_mk KX G ?qa ?ql ?qc ?qk; (case qa => k_is); (case ql => k_is); (case qc => k_is); (case qk => k_is)))
    (case qL2 => (refine' K6.fx_mk KX G ?qa ?ql ?qc ?qk; (case qa => k_is); (case ql => k_is); (case qc => k_is); (case qk => k_is)))
    (case qL3 => (refine' K6.fx_mk KX G ?qa ?ql ?qc ?qk; (case qa => k_is); (case ql => k_is); (case qc => k_is); (case qk => k_is)))
    (case qL4 => (refine' K6.fx_mk KX G ?qa ?ql ?qc ?qk; (case qa => k_is); (case ql => k_is); (case qc => k_is); (case qk => k_is)))
    (case qL5 => (refine' K6.fx_mk KX G ?qa ?ql ?qc ?qk; (case qa => k_is); (case ql => k_is); (case qc => k_is); (case qk => k_is)))
    (case qL6 => (refine' K6.fx_mk KX G ?qa ?ql ?qc ?qk; (case qa => k_is); (case ql => k_is); (case qc => k_is); (case qk => k_is)))
    (case qL7 => (refine' K6.fx_mk KX G ?qa ?ql ?qc ?qk; (case qa => k_is); (case ql => k_is); (case qc => k_is); (case qk => k_is)))
    (case qL8 => (refine' K6.fx_mk KX G ?qa ?ql ?qc ?qk; (case qa => k_is); (case ql => k_is); (case qc => k_is); (case qk => k_is)))
    (case qL9 => (refine' K6.fx_mk KX G ?qa ?ql ?qc ?qk; (case qa => k_is); (case ql => k_is); (case qc => k_is); (case qk => k_is)))
    (case qL10 => (refine' K6.fx_mk KX G ?qa ?ql ?qc ?qk; (case qa => k_is); (case ql => k_is); (case qc => k_is); (case qk => k_is)))
    (case qLL => (refine' K6.fx_mk KX G ?qa ?ql ?qc ?qk; (case qa => k_is); (case ql => k_is); (case qc => k_is); (case qk => k_is)))
