import PyProof.Rows.All
import Wide.All
import OpenK.AllK
import Wide.FinOn
import HandS.ForMost
import HandS.Defaults
import HandS.Deep
import HandS.TupAny
import HandS.Conv
import HandS.Flow
import HandS.IsInst
import HandS.SortRule
import HandS.WideBits
import HandS.WordsExc
import PyProof.P3In
import HandS.Style
import HandS.Text
import KE.SortCalls
import KE.SortKeyed
import KE.DataCmp
import PyProof.TupleOfSeq
import HandS.ExcValue
import HandS.TupSets
import HandS.Head0
import HandS.Head1
import HandS.Head2
import HandS.HeadEnd
import HandS.HeadHook1
import HandS.HeadHook2
import KE.DatumOrd
import PySem.Challenge.RW_backforth_k48_orbits_listed
set_option Elab.async false
set_option linter.all false
set_option maxRecDepth 100000
set_option maxHeartbeats 2000000
/-! PL0: plain data over the hand layer: what a value stands for, what an environment holds, what a statement leaves. -/
namespace PL
open PySem L2
abbrev D := PyData
/-- the heap without the lists that are still being written -/
def hid (O : List Addr) (H : Hp) : Hp := fun a => if a ∈ O then none else H a
theorem hid_in {O : List Addr} {H : Hp} {a : Addr} (h : a ∈ O) : hid O H a = none := by unfold hid; rw [if_pos h]
theorem hid_out {O : List Addr} {H : Hp} {a : Addr} (h : a ∉ O) : hid O H a = H a := by unfold hid; rw [if_neg h]
theorem hid_some {O : List Addr} {H : Hp} {a : Addr} {o : HO} (h : hid O H a = some o) : a ∉ O ∧ H a = some o := by
  unfold hid at h
  split at h
  · cases h
  · rename_i n; exact ⟨n, h⟩
theorem same_hid {O : List Addr} {H H' : Hp} (s : Same H H') : Same (hid O H) (hid O H') := fun a o h => by
  obtain ⟨n, e⟩ := hid_some h
  rw [hid_out n]; exact s a o e
theorem same_unhid {O : List Addr} {H : Hp} : Same (hid O H) H := fun a o h => (hid_some h).2
theorem same_less {O O' : List Addr} {H : Hp} (h : ∀ a ∈ O', a ∈ O) : Same (hid O H) (hid O' H) := fun a o e => by
  obtain ⟨n, e⟩ := hid_some e
  rw [hid_out fun z => n (h a z)]; exact e
theorem hid_upd {O : List Addr} {H : Hp} {l : Addr} {o : HO} (h : l ∈ O) : hid O (upd H l o) = hid O H := by
  funext a
  by_cases q : a ∈ O
  · rw [hid_in q, hid_in q]
  · rw [hid_out q, hid_out q, upd_ne (fun e => q (by rw [e]; exact h))]
theorem same_upd {H : Hp} {p : Addr} {o : HO} (h : H p = none) : Same H (upd H p o) := fun b x e => by
  rw [upd_ne (ne_of_none e h)]; exact e
theorem same_seqT {K : PySem.W.Frag} {H H' : Hp} {a : Addr} {xs : List V} (e : Same H H') (h : SqT K H a xs) : SqT K H' a xs := by
  rcases h with (h | ⟨o, h⟩) | h
  · exact .inl (.inl (e _ _ h))
  · exact .inl (.inr ⟨o, e _ _ h⟩)
  · exact .inr h
theorem same_rd {H H' : Hp} {a : Addr} {u : HO} (e : Same H H') (h : Rd H a u) : Rd H' a u := by
  rcases h with h | ⟨o, h⟩
  · exact .inl (e _ _ h)
  · exact .inr ⟨o, e _ _ h⟩
/-! data (no list of the module's own) -/
mutual
inductive Dq (K : PySem.W.Frag) (H : Hp) : V → D → Prop
  | non : Dq K H .non .none
  | bl (b : Bool) : Dq K H (.bl b) (.bool b)
  | int (i : Int) : Dq K H (.int i) (.int i)
  | str (x : Str) : Dq K H (.str x) (.str x)
  | lst {a : Addr} {xs : List V} {ds : List D} : Rd H a (.lst xs) → DqAll K H xs ds → Dq K H (.ref a) (.list ds)
  | tup {a : Addr} {xs : List V} {ds : List D} : SqT K H a xs → DqAll K H xs ds → Dq K H (.ref a) (.tuple ds)
inductive DqAll (K : PySem.W.Frag) (H : Hp) : List V → List D → Prop
  | nil : DqAll K H [] []
  | cons {v : V} {vs : List V} {d : D} {ds : List D} : Dq K H v d → DqAll K H vs ds → DqAll K H (v :: vs) (d :: ds)
end
mutual
theorem Dq.dp {K : PySem.W.Frag} {H : Hp} : ∀ {v : V} {d : D}, Dq K H v d → Dp K H v d
  | _, _, .non => .non
  | _, _, .bl b => .bl b
  | _, _, .int i => .int i
  | _, _, .str x => .str x
  | _, _, .lst a b => .lst (.inl a) (DqAll.dp b)
  | _, _, .tup a b => .tup a (DqAll.dp b)
theorem DqAll.dp {K : PySem.W.Frag} {H : Hp} : ∀ {vs : List V} {ds : List D}, DqAll K H vs ds → DpAll K H vs ds
  | _, _, .nil => .nil
  | _, _, .cons a b => .cons (Dq.dp a) (DqAll.dp b)
end
mutual
theorem dp_mono {K : PySem.W.Frag} {H H' : Hp} (s : Same H H') : ∀ {v : V} {d : D}, Dq K H v d → Dq K H' v d
  | _, _, .non => .non
  | _, _, .bl b => .bl b
  | _, _, .int i => .int i
  | _, _, .str x => .str x
  | _, _, .lst a b => .lst (same_rd s a) (dpAll_mono s b)
  | _, _, .tup a b => .tup (same_seqT s a) (dpAll_mono s b)
theorem dpAll_mono {K : PySem.W.Frag} {H H' : Hp} (s : Same H H') : ∀ {vs : List V} {ds : List D}, DqAll K H vs ds → DqAll K H' vs ds
  | _, _, .nil => .nil
  | _, _, .cons a b => .cons (dp_mono s a) (dpAll_mono s b)
end
section
variable {K : PySem.W.Frag} {H H' : Hp} {O : List Addr}
theorem dpAll_len : ∀ {vs : List V} {ds : List D}, DqAll K H vs ds → vs.length = ds.length
  | _, _, .nil => rfl
  | _, _, .cons _ b => by rw [List.length_cons, List.length_cons, dpAll_len b]
theorem dpAll_get : ∀ {vs : List V} {ds : List D} {i : Nat} {v : V}, DqAll K H vs ds → vs[i]? = some v → ∃ d, ds[i]? = some d ∧ Dq K H v d
  | _, _, _, _, .nil, e => by simp at e
  | _, _, 0, v, .cons a _, e => by simp at e; subst e; exact ⟨_, rfl, a⟩
  | _, _, i + 1, v, .cons _ b, e => by
    obtain ⟨d, h1, h2⟩ := dpAll_get (i := i) (v := v) b (by simpa using e)
    exact ⟨d, by simpa using h1, h2⟩
theorem dpAll_get' : ∀ {vs : List V} {ds : List D} {i : Nat} {d : D}, DqAll K H vs ds → ds[i]? = some d → ∃ v, vs[i]? = some v ∧ Dq K H v d
  | _, _, _, _, .nil, e => by simp at e
  | _, _, 0, d, .cons a _, e => by simp at e; subst e; exact ⟨_, rfl, a⟩
  | _, _, i + 1, d, .cons _ b, e => by
    obtain ⟨v, h1, h2⟩ := dpAll_get' (i := i) (d := d) b (by simpa using e)
    exact ⟨v, by simpa using h1, h2⟩
theorem dpAll_app : ∀ {vs ws : List V} {ds es : List D}, DqAll K H vs ds → DqAll K H ws es → DqAll K H (vs ++ ws) (ds ++ es)
  | _, _, _, _, .nil, b => b
  | _, _, _, _, .cons a r, b => .cons a (dpAll_app r b)
theorem dpAll_drop : ∀ (n : Nat) {vs : List V} {ds : List D}, DqAll K H vs ds → DqAll K H (vs.drop n) (ds.drop n)
  | 0, _, _, h => h
  | _ + 1, _, _, .nil => .nil
  | n + 1, _, _, .cons _ r => dpAll_drop n r
theorem dpAll_take : ∀ (n : Nat) {vs : List V} {ds : List D}, DqAll K H vs ds → DqAll K H (vs.take n) (ds.take n)
  | 0, _, _, _ => .nil
  | _ + 1, _, _, .nil => .nil
  | n + 1, _, _, .cons a r => .cons a (dpAll_take n r)
theorem dpAll_set : ∀ {vs : List V} {ds : List D} (i : Nat) {v : V} {d : D}, DqAll K H vs ds → Dq K H v d → DqAll K H (vs.set i v) (ds.set i d)
  | _, _, _, _, _, .nil, _ => .nil
  | _, _, 0, _, _, .cons _ r, q => .cons q r
  | _, _, i + 1, _, _, .cons a r, q => .cons a (dpAll_set i r q)
theorem dpAll_rev : ∀ {vs : List V} {ds : List D}, DqAll K H vs ds → DqAll K H vs.reverse ds.reverse
  | _, _, .nil => .nil
  | _, _, .cons a r => by rw [List.reverse_cons, List.reverse_cons]; exact dpAll_app (dpAll_rev r) (.cons a .nil)
theorem dpAll_erase : ∀ (i : Nat) {vs : List V} {ds : List D}, DqAll K H vs ds → DqAll K H (vs.eraseIdx i) (ds.eraseIdx i)
  | _, _, _, .nil => .nil
  | 0, _, _, .cons _ r => r
  | i + 1, _, _, .cons a r => .cons a (dpAll_erase i r)
theorem dpAll_ints : ∀ {vs : List V} {ns : List Int}, DqAll K H vs (ns.map PyData.int) → vs = ns.map V.int
  | _, [], .nil => rfl
  | _, n :: ns, .cons a r => by cases a; rw [List.map_cons, dpAll_ints r]
theorem dpAll_of_ints : ∀ (ns : List Int), DqAll K H (ns.map V.int) (ns.map PyData.int)
  | [] => .nil
  | n :: ns => .cons (.int n) (dpAll_of_ints ns)
theorem dpAll_bools : ∀ {vs : List V} {ns : List Bool}, DqAll K H vs (ns.map PyData.bool) → vs = ns.map V.bl
  | _, [], .nil => rfl
  | _, n :: ns, .cons a r => by cases a; rw [List.map_cons, dpAll_bools r]
end

/-! ### views: data, or a list that is still being written -/
inductive Vw (K : PySem.W.Frag) (O : List Addr) (H : Hp) : V → D → Prop
  | dp {v : V} {d : D} : Dq K (hid O H) v d → Vw K O H v d
  | own {l : Addr} {vs : List V} {ds : List D} : l ∈ O → H l = some (.lst vs) → DqAll K (hid O H) vs ds → Vw K O H (.ref l) (.list ds)
inductive VwAll (K : PySem.W.Frag) (O : List Addr) (H : Hp) : List V → List D → Prop
  | nil : VwAll K O H [] []
  | cons {v : V} {vs : List V} {d : D} {ds : List D} : Vw K O H v d → VwAll K O H vs ds → VwAll K O H (v :: vs) (d :: ds)
section
variable {K : PySem.W.Frag} {H H' : Hp} {O : List Addr} {v : V} {d : D} {vs : List V} {ds : List D}
theorem Vw.mono (s : Same H H') (h : Vw K O H v d) : Vw K O H' v d := by
  cases h with
  | dp h => exact .dp (dp_mono (same_hid s) h)
  | own a b c => exact .own a (s _ _ b) (dpAll_mono (same_hid s) c)
theorem VwAll.mono (s : Same H H') : ∀ {vs : List V} {ds : List D}, VwAll K O H vs ds → VwAll K O H' vs ds
  | _, _, .nil => .nil
  | _, _, .cons a r => .cons (a.mono s) (VwAll.mono s r)
theorem Vw.int {i : Int} (h : Vw K O H v (.int i)) : v = .int i := by cases h with | dp h => cases h; rfl
theorem Vw.bl {b : Bool} (h : Vw K O H v (.bool b)) : v = .bl b := by cases h with | dp h => cases h; rfl
theorem Vw.str {x : Str} (h : Vw K O H v (.str x)) : v = .str x := by cases h with | dp h => cases h; rfl
theorem Vw.non (h : Vw K O H v .none) : v = .non := by cases h with | dp h => cases h; rfl
theorem Vw.tup (h : Vw K O H v (.tuple ds)) : ∃ a vs, v = .ref a ∧ SqT K H a vs ∧ DqAll K (hid O H) vs ds := by
  cases h with
  | dp h => cases h with | tup a b => exact ⟨_, _, rfl, same_seqT same_unhid a, b⟩
theorem Vw.lst (h : Vw K O H v (.list ds)) : ∃ a vs, v = .ref a ∧ Rd H a (.lst vs) ∧ DqAll K (hid O H) vs ds := by
  cases h with
  | dp h => cases h with | lst a b => exact ⟨_, _, rfl, same_rd same_unhid a, b⟩
  | own a b c => exact ⟨_, _, rfl, .inl b, c⟩
theorem Vw.full (h : Vw K O H v d) : Dq K H v d := by
  cases h with
  | dp h => exact dp_mono same_unhid h
  | own a b c => exact .lst (.inl b) (dpAll_mono same_unhid c)
theorem Dq.tup' {F : Hp} (h : Dq K F v (.tuple ds)) : ∃ a vs, v = .ref a ∧ SqT K F a vs ∧ DqAll K F vs ds := by
  cases h with | tup a b => exact ⟨_, _, rfl, a, b⟩
theorem Dq.lst' {F : Hp} (h : Dq K F v (.list ds)) : ∃ a vs, v = .ref a ∧ Rd F a (.lst vs) ∧ DqAll K F vs ds := by
  cases h with | lst a b => exact ⟨_, _, rfl, a, b⟩
theorem VwAll.of : ∀ {vs : List V} {ds : List D}, DqAll K (hid O H) vs ds → VwAll K O H vs ds
  | _, _, .nil => .nil
  | _, _, .cons a r => .cons (.dp a) (VwAll.of r)
end

/-! ### environments -/
inductive Sl where
  | un | dat (d : D) | own (ds : List D)
abbrev Env := List Sl
def getS : List Sl → Nat → Sl
  | [], _ => .un
  | x :: _, 0 => x
  | _ :: r, i + 1 => getS r i
def setS : List Sl → Nat → Sl → List Sl
  | [], _, _ => []
  | _ :: r, 0, y => y :: r
  | x :: r, i + 1, y => x :: setS r i y
theorem setS_len : ∀ (ρ : List Sl) (i : Nat) (y : Sl), (setS ρ i y).length = ρ.length
  | [], _, _ => rfl
  | _ :: _, 0, _ => rfl
  | _ :: r, i + 1, y => by show (setS r i y).length + 1 = r.length + 1; rw [setS_len r i y]
theorem get_set_same : ∀ (ρ : List Sl) (i : Nat) (y : Sl), i < ρ.length → getS (setS ρ i y) i = y
  | [], _, _, h => absurd h (Nat.not_lt_zero _)
  | _ :: _, 0, _, _ => rfl
  | _ :: r, i + 1, y, h => get_set_same r i y (Nat.lt_of_succ_lt_succ h)
theorem get_set_ne : ∀ (ρ : List Sl) (i j : Nat) (y : Sl), j ≠ i → getS (setS ρ i y) j = getS ρ j
  | [], _, _, _, _ => rfl
  | _ :: _, 0, 0, _, h => absurd rfl h
  | _ :: _, 0, _ + 1, _, _ => rfl
  | _ :: _, _ + 1, 0, _, _ => rfl
  | _ :: r, i + 1, j + 1, y, h => get_set_ne r i j y fun e => h (by rw [e])
theorem getS_lt : ∀ (ρ : List Sl) (i : Nat), getS ρ i ≠ .un → i < ρ.length
  | [], _, h => absurd rfl h
  | _ :: _, 0, _ => Nat.succ_pos _
  | _ :: r, i + 1, h => Nat.succ_lt_succ (getS_lt r i h)
theorem get_set_cases (ρ : List Sl) (i j : Nat) (y : Sl) (h : getS (setS ρ i y) j ≠ .un) : (j = i ∧ i < ρ.length ∧ getS (setS ρ i y) j = y) ∨ (j ≠ i ∧ getS (setS ρ i y) j = getS ρ j) := by
  by_cases e : j = i
  · subst e
    have l := getS_lt _ _ h
    rw [setS_len] at l
    exact .inl ⟨rfl, l, get_set_same ρ j y l⟩
  · exact .inr ⟨e, get_set_ne ρ i j y e⟩

structure EnvR (K : PySem.W.Frag) (O : List Addr) (H : Hp) (ρ : Env) (σ : L2.St) : Prop where
  len : σ.length = ρ.length
  there : ∀ l ∈ O, ∃ vs, H l = some (.lst vs)
  dat : ∀ i d, getS ρ i = .dat d → ∃ v, σ[i]? = some (some v) ∧ Dq K (hid O H) v d
  own : ∀ i ds, getS ρ i = .own ds → ∃ l vs, σ[i]? = some (some (.ref l)) ∧ l ∈ O ∧ H l = some (.lst vs) ∧ DqAll K (hid O H) vs ds
  inj : ∀ i j ds es l, getS ρ i = .own ds → getS ρ j = .own es → σ[i]? = some (some (.ref l)) → σ[j]? = some (some (.ref l)) → i = j
section
variable {K : PySem.W.Frag} {H H' : Hp} {O : List Addr} {ρ : Env} {σ : L2.St}
theorem EnvR.mono (s : Same H H') (e : EnvR K O H ρ σ) : EnvR K O H' ρ σ where
  len := e.len
  there := fun l h => let ⟨vs, q⟩ := e.there l h; ⟨vs, s _ _ q⟩
  dat := fun i d h => let ⟨v, a, b⟩ := e.dat i d h; ⟨v, a, dp_mono (same_hid s) b⟩
  own := fun i ds h => let ⟨l, vs, a, b, c, d⟩ := e.own i ds h; ⟨l, vs, a, b, s _ _ c, dpAll_mono (same_hid s) d⟩
  inj := e.inj
theorem EnvR.fresh (e : EnvR K O H ρ σ) {p : Addr} (h : H p = none) : p ∉ O := fun m => by
  obtain ⟨vs, q⟩ := e.there p m
  rw [h] at q; cases q
/-- a slot gets data -/
theorem EnvR.setD (e : EnvR K O H ρ σ) (i : Nat) {v : V} {d : D} (h : Dq K (hid O H) v d) : EnvR K O H (setS ρ i (.dat d)) (σ.set i (some v)) where
  len := by rw [List.length_set, setS_len]; exact e.len
  there := e.there
  dat := fun j d' hj => by
    rcases get_set_cases ρ i j (.dat d) (by rw [hj]; intro z; cases z) with ⟨rfl, l, q⟩ | ⟨ne, q⟩
    · rw [q] at hj; cases hj
      exact ⟨v, List.getElem?_set_self (by rw [e.len]; exact l), h⟩
    · rw [q] at hj
      obtain ⟨w, a, b⟩ := e.dat j d' hj
      exact ⟨w, by rw [List.getElem?_set_ne (Ne.symm ne)]; exact a, b⟩
  own := fun j ds hj => by
    rcases get_set_cases ρ i j (.dat d) (by rw [hj]; intro z; cases z) with ⟨rfl, l, q⟩ | ⟨ne, q⟩
    · rw [q] at hj; cases hj
    · rw [q] at hj
      obtain ⟨l, vs, a, b⟩ := e.own j ds hj
      exact ⟨l, vs, by rw [List.getElem?_set_ne (Ne.symm ne)]; exact a, b⟩
  inj := fun j k ds es l hj hk aj ak => by
    rcases get_set_cases ρ i j (.dat d) (by rw [hj]; intro z; cases z) with ⟨rfl, _, q⟩ | ⟨ne, q⟩
    · rw [q] at hj; cases hj
    · rcases get_set_cases ρ i k (.dat d) (by rw [hk]; intro z; cases z) with ⟨rfl, _, q'⟩ | ⟨ne', q'⟩
      · rw [q'] at hk; cases hk
      · rw [q] at hj; rw [q'] at hk
        rw [List.getElem?_set_ne (Ne.symm ne)] at aj
        rw [List.getElem?_set_ne (Ne.symm ne')] at ak
        exact e.inj j k ds es l hj hk aj ak
/-- a slot is forgotten -/
theorem EnvR.unset (e : EnvR K O H ρ σ) (i : Nat) : EnvR K O H (setS ρ i .un) (σ.set i none) where
  len := by rw [List.length_set, setS_len]; exact e.len
  there := e.there
  dat := fun j d' hj => by
    rcases get_set_cases ρ i j .un (by rw [hj]; intro z; cases z) with ⟨rfl, l, q⟩ | ⟨ne, q⟩
    · rw [q] at hj; cases hj
    · rw [q] at hj
      obtain ⟨w, a, b⟩ := e.dat j d' hj
      exact ⟨w, by rw [List.getElem?_set_ne (Ne.symm ne)]; exact a, b⟩
  own := fun j ds hj => by
    rcases get_set_cases ρ i j .un (by rw [hj]; intro z; cases z) with ⟨rfl, l, q⟩ | ⟨ne, q⟩
    · rw [q] at hj; cases hj
    · rw [q] at hj
      obtain ⟨l, vs, a, b⟩ := e.own j ds hj
      exact ⟨l, vs, by rw [List.getElem?_set_ne (Ne.symm ne)]; exact a, b⟩
  inj := fun j k ds es l hj hk aj ak => by
    rcases get_set_cases ρ i j .un (by rw [hj]; intro z; cases z) with ⟨rfl, _, q⟩ | ⟨ne, q⟩
    · rw [q] at hj; cases hj
    · rcases get_set_cases ρ i k .un (by rw [hk]; intro z; cases z) with ⟨rfl, _, q'⟩ | ⟨ne', q'⟩
      · rw [q'] at hk; cases hk
      · rw [q] at hj; rw [q'] at hk
        rw [List.getElem?_set_ne (Ne.symm ne)] at aj
        rw [List.getElem?_set_ne (Ne.symm ne')] at ak
        exact e.inj j k ds es l hj hk aj ak
/-- a slot gets a new list of its own -/
theorem EnvR.setO (e : EnvR K O H ρ σ) (i : Nat) {l : Addr} {vs : List V} {ds : List D} (hn : H l = none) (s : Same H H') (hl : H' l = some (.lst vs)) (h : DqAll K (hid (l :: O) H') vs ds) :
    EnvR K (l :: O) H' (setS ρ i (.own ds)) (σ.set i (some (.ref l))) := by
  have nO : l ∉ O := e.fresh hn
  have hs : Same (hid O H) (hid (l :: O) H') := fun a o q => by
    obtain ⟨n, q⟩ := hid_some q
    have : a ∉ l :: O := by
      intro m
      rcases List.mem_cons.mp m with z | z
      · subst z; rw [hn] at q; cases q
      · exact n z
    rw [hid_out this]; exact s _ _ q
  refine ⟨by rw [List.length_set, setS_len]; exact e.len, fun a m => ?_, fun j d hj => ?_, fun j es hj => ?_, fun j k es fs l' hj hk aj ak => ?_⟩
  · rcases List.mem_cons.mp m with z | z
    · subst z; exact ⟨vs, hl⟩
    · obtain ⟨ws, q⟩ := e.there a z
      exact ⟨ws, s _ _ q⟩
  · rcases get_set_cases ρ i j (.own ds) (by rw [hj]; intro z; cases z) with ⟨rfl, l, q⟩ | ⟨ne, q⟩
    · rw [q] at hj; cases hj
    · rw [q] at hj
      obtain ⟨w, a, b⟩ := e.dat j d hj
      exact ⟨w, by rw [List.getElem?_set_ne (Ne.symm ne)]; exact a, dp_mono hs b⟩
  · rcases get_set_cases ρ i j (.own ds) (by rw [hj]; intro z; cases z) with ⟨rfl, l', q⟩ | ⟨ne, q⟩
    · rw [q] at hj; cases hj
      exact ⟨l, vs, List.getElem?_set_self (by rw [e.len]; exact l'), List.mem_cons_self, hl, h⟩
    · rw [q] at hj
      obtain ⟨l', ws, a, b, c, d⟩ := e.own j es hj
      exact ⟨l', ws, by rw [List.getElem?_set_ne (Ne.symm ne)]; exact a, List.mem_cons_of_mem _ b, s _ _ c, dpAll_mono hs d⟩
  · have old : ∀ j es, j ≠ i → getS ρ j = .own es → σ[j]? = some (some (.ref l)) → False := fun j es ne hj a => by
      obtain ⟨l'', ws, a', b, _⟩ := e.own j es hj
      rw [a] at a'; cases a'
      exact nO b
    rcases get_set_cases ρ i j (.own ds) (by rw [hj]; intro z; cases z) with ⟨rfl, lj, q⟩ | ⟨ne, q⟩
    · rw [List.getElem?_set_self (by rw [e.len]; exact lj)] at aj
      cases aj
      rcases get_set_cases ρ j k (.own ds) (by rw [hk]; intro z; cases z) with ⟨rfl, _, q'⟩ | ⟨ne', q'⟩
      · rfl
      · rw [List.getElem?_set_ne (Ne.symm ne')] at ak
        rw [q'] at hk
        exact (old k fs ne' hk ak).elim
    · rw [List.getElem?_set_ne (Ne.symm ne)] at aj
      rw [q] at hj
      rcases get_set_cases ρ i k (.own ds) (by rw [hk]; intro z; cases z) with ⟨rfl, lk, q'⟩ | ⟨ne', q'⟩
      · rw [List.getElem?_set_self (by rw [e.len]; exact lk)] at ak
        cases ak
        exact (old j es ne hj aj).elim
      · rw [List.getElem?_set_ne (Ne.symm ne')] at ak
        rw [q'] at hk
        exact e.inj j k es fs l' hj hk aj ak
/-- an own list is written -/
theorem EnvR.upO (e : EnvR K O H ρ σ) {i : Nat} {l : Addr} {ws : List V} {ds es : List D} (hi : getS ρ i = .own ds) (hl : σ[i]? = some (some (.ref l))) (h : DqAll K (hid O H) ws es) :
    EnvR K O (upd H l (.lst ws)) (setS ρ i (.own es)) σ := by
  obtain ⟨l', vs', a, lO, hH, _⟩ := e.own i ds hi
  rw [hl] at a; cases a
  have hi' : i < ρ.length := getS_lt _ _ (by rw [hi]; intro z; cases z)
  refine ⟨by rw [setS_len]; exact e.len, fun a m => ?_, fun j d hj => ?_, fun j fs hj => ?_, fun j k fs gs l' hj hk aj ak => ?_⟩
  · by_cases z : a = l
    · subst z; exact ⟨ws, upd_same⟩
    · rw [upd_ne z]; exact e.there a m
  · rcases get_set_cases ρ i j (.own es) (by rw [hj]; intro z; cases z) with ⟨rfl, l, q⟩ | ⟨ne, q⟩
    · rw [q] at hj; cases hj
    · rw [q] at hj
      obtain ⟨w, a, b⟩ := e.dat j d hj
      exact ⟨w, a, by rw [hid_upd lO]; exact b⟩
  · rcases get_set_cases ρ i j (.own es) (by rw [hj]; intro z; cases z) with ⟨rfl, _, q⟩ | ⟨ne, q⟩
    · rw [q] at hj; cases hj
      exact ⟨l, ws, hl, lO, upd_same, by rw [hid_upd lO]; exact h⟩
    · rw [q] at hj
      obtain ⟨l', us, a, b, c, d⟩ := e.own j fs hj
      have : l' ≠ l := fun z => ne (by subst z; exact e.inj j i fs ds l' hj hi a hl)
      exact ⟨l', us, a, b, by rw [upd_ne this]; exact c, by rw [hid_upd lO]; exact d⟩
  · have back : ∀ j fs, getS (setS ρ i (.own es)) j = .own fs → ∃ gs, getS ρ j = .own gs := fun j fs hj => by
      rcases get_set_cases ρ i j (.own es) (by rw [hj]; intro z; cases z) with ⟨rfl, _, _⟩ | ⟨ne, q⟩
      · exact ⟨ds, hi⟩
      · rw [q] at hj; exact ⟨fs, hj⟩
    obtain ⟨a1, b1⟩ := back j fs hj
    obtain ⟨a2, b2⟩ := back k gs hk
    exact e.inj j k a1 a2 l' b1 b2 aj ak
/-- an own list becomes data -/
theorem EnvR.frz (e : EnvR K O H ρ σ) {i : Nat} {ds : List D} (hi : getS ρ i = .own ds) : ∃ l, l ∈ O ∧ σ[i]? = some (some (.ref l)) ∧ EnvR K (O.filter (· ≠ l)) H (setS ρ i (.dat (.list ds))) σ := by
  obtain ⟨l, vs, a, lO, hH, hd⟩ := e.own i ds hi
  have hi' : i < ρ.length := getS_lt _ _ (by rw [hi]; intro z; cases z)
  have less : ∀ a ∈ O.filter (· ≠ l), a ∈ O := fun a m => (List.mem_filter.mp m).1
  have hs : Same (hid O H) (hid (O.filter (· ≠ l)) H) := same_less less
  have nl : l ∉ O.filter (· ≠ l) := fun m => by
    have := (List.mem_filter.mp m).2
    simp at this
  refine ⟨l, lO, a, by rw [setS_len]; exact e.len, fun a m => e.there a (less a m), fun j d hj => ?_, fun j fs hj => ?_, fun j k fs gs l' hj hk aj ak => ?_⟩
  · rcases get_set_cases ρ i j (.dat (.list ds)) (by rw [hj]; intro z; cases z) with ⟨rfl, _, q⟩ | ⟨ne, q⟩
    · rw [q] at hj; cases hj
      exact ⟨_, a, .lst (.inl (by rw [hid_out nl]; exact hH)) (dpAll_mono hs hd)⟩
    · rw [q] at hj
      obtain ⟨w, a, b⟩ := e.dat j d hj
      exact ⟨w, a, dp_mono hs b⟩
  · rcases get_set_cases ρ i j (.dat (.list ds)) (by rw [hj]; intro z; cases z) with ⟨rfl, _, q⟩ | ⟨ne, q⟩
    · rw [q] at hj; cases hj
    · rw [q] at hj
      obtain ⟨l', us, a', b, c, d⟩ := e.own j fs hj
      have ne' : l' ≠ l := fun z => ne (by subst z; exact e.inj j i fs ds l' hj hi a' a)
      exact ⟨l', us, a', List.mem_filter.mpr ⟨b, by simpa using ne'⟩, c, dpAll_mono hs d⟩
  · have back : ∀ j fs, getS (setS ρ i (.dat (.list ds))) j = .own fs → getS ρ j = .own fs := fun j fs hj => by
      rcases get_set_cases ρ i j (.dat (.list ds)) (by rw [hj]; intro z; cases z) with ⟨rfl, _, q⟩ | ⟨ne, q⟩
      · rw [q] at hj; cases hj
      · rw [q] at hj; exact hj
    exact e.inj j k fs gs l' (back j fs hj) (back k gs hk) aj ak
end
/-- lists and tuples are not too long -/
def LenOk (K : PySem.W.Frag) (H : Hp) : Prop := ∀ a xs, SqL K H a xs ∨ SqT K H a xs → xs.length ≤ sizeLine
theorem lenOk_of {X : Cx} {pins : List (Addr × Obj)} {σ : L2.St} {H : Hp} {s : Shared} (I : Inv X pins σ H s) : LenOk X.K H := fun a xs h => by
  rcases h with h | h
  · obtain ⟨_, _, _, z⟩ := I.list h; exact z
  · obtain ⟨_, _, _, z⟩ := I.tuple h; exact z
theorem PE.conv {X : Cx} {e : Expr} {t t' : TE} (h : PE X e t) (hc : ∀ σ H Q, LenOk X.K H → t' σ H Q → t σ H (fun v H' => LenOk X.K H' → Q v H')) : PE X e t' := ⟨fun pins s σ H Q I q =>
  thn (h.run pins s σ H _ I (hc σ H Q (lenOk_of I) q)) fun _ _ ⟨v, H', I', r, q'⟩ => ⟨v, H', I', r, q' (lenOk_of I')⟩⟩
theorem PT.conv {X : Cx} {e : Expr} {t t' : TT} (h : PT X e t) (hc : ∀ σ H Q, LenOk X.K H → t' σ H Q → t σ H (fun v H' => LenOk X.K H' → Q v H')) : PT X e t' := ⟨fun pins s σ H Q I q =>
  thn (h.run pins s σ H _ I (hc σ H Q (lenOk_of I) q)) fun _ _ ⟨H', I', q'⟩ => ⟨H', I', q' (lenOk_of I')⟩⟩
theorem PS.conv {X : Cx} {e : Stmt} {t t' : TS} (h : PS X e t) (hc : ∀ D σ H, LenOk X.K H → t' D σ H → t D σ H) : PS X e t' := ⟨fun pins s σ H D I q => h.run pins s σ H D I (hc D σ H (lenOk_of I) q)⟩
theorem PSs.conv {X : Cx} {e : List Stmt} {t t' : TS} (h : PSs X e t) (hc : ∀ D σ H, LenOk X.K H → t' D σ H → t D σ H) : PSs X e t' := ⟨fun pins s σ H D I q => h.run pins s σ H D I (hc D σ H (lenOk_of I) q)⟩
end PL

set_option Elab.async false
set_option linter.all false
set_option maxRecDepth 100000
set_option maxHeartbeats 2000000
/-! PL1: expressions over plain data. -/
namespace PL
open PySem L2
abbrev EF := Env → Option D
abbrev TF := Env → Option Bool
abbrev AF := Env → Option (List D)
abbrev LIM : Nat := 16777216
theorem lim_eq : sizeLine = LIM := sizeLine_eq
def ThereO (O : List Addr) (H : Hp) : Prop := ∀ l ∈ O, ∃ vs, H l = some (.lst vs)
theorem ThereO.mono {O : List Addr} {H H' : Hp} (s : Same H H') (t : ThereO O H) : ThereO O H' := fun l h => let ⟨vs, q⟩ := t l h; ⟨vs, s _ _ q⟩
theorem ThereO.fresh {O : List Addr} {H : Hp} (t : ThereO O H) {p : Addr} (h : H p = none) : p ∉ O := fun m => by
  obtain ⟨vs, q⟩ := t p m
  rw [h] at q; cases q
/-- an expression's readings: data; a view -/
def tP (K : PySem.W.Frag) (g : EF) : TE := fun σ H Q => ∃ O ρ d, EnvR K O H ρ σ ∧ g ρ = some d ∧ ∀ v H', Same H H' → LenOk K H' → Dq K (hid O H') v d → Q v H'
def tV (K : PySem.W.Frag) (g : EF) : TE := fun σ H Q => ∃ O ρ d, EnvR K O H ρ σ ∧ g ρ = some d ∧ ∀ v H', Same H H' → LenOk K H' → Vw K O H' v d → Q v H'
def tT (K : PySem.W.Frag) (g : TF) : TT := fun σ H Q => ∃ O ρ b, EnvR K O H ρ σ ∧ g ρ = some b ∧ ∀ H', Same H H' → LenOk K H' → Q b H'
abbrev PuE (X : Cx) (e : Expr) (g : EF) : Prop := PE X e (tP X.K g)
abbrev PuV (X : Cx) (e : Expr) (g : EF) : Prop := PE X e (tV X.K g)
abbrev PuT (X : Cx) (e : Expr) (g : TF) : Prop := PT X e (tT X.K g)
theorem PuE.v {X : Cx} {e : Expr} {g : EF} (h : PuE X e g) : PuV X e g := PE.conv h fun σ H Q lk ⟨O, ρ, d, er, hg, hq⟩ => ⟨O, ρ, d, er, hg, fun v H' s l dp _ => hq v H' s l (.dp dp)⟩

/-! ### names, constants -/
def eVar (i : Nat) : EF := fun ρ => match getS ρ i with
  | .dat d => some d
  | _ => none
def vVar (i : Nat) : EF := fun ρ => match getS ρ i with
  | .dat d => some d
  | .own ds => some (.list ds)
  | .un => none
def eC (d : D) : EF := fun _ => some d
section
variable {X : Cx} {a b c e : Expr} {ga gb gc : EF} {pos : Pos}
theorem pu_var {i : Nat} {x : Str} (h : PE X (.Name x pos) (tVar i)) : PuE X (.Name x pos) (eVar i) := PE.conv h fun σ H Q lk ⟨O, ρ, d, er, hg, hq⟩ => by
  unfold eVar at hg
  split at hg
  · rename_i d' e
    cases hg
    obtain ⟨v, e1, e2⟩ := er.dat i _ e
    exact ⟨v, e1, fun l => hq v H (Same.refl H) l e2⟩
  · cases hg
theorem pv_var {i : Nat} {x : Str} (h : PE X (.Name x pos) (tVar i)) : PuV X (.Name x pos) (vVar i) := PE.conv h fun σ H Q lk ⟨O, ρ, d, er, hg, hq⟩ => by
  unfold vVar at hg
  split at hg
  · rename_i d' e
    cases hg
    obtain ⟨v, e1, e2⟩ := er.dat i _ e
    exact ⟨v, e1, fun l => hq v H (Same.refl H) l (.dp e2)⟩
  · rename_i ds e
    cases hg
    obtain ⟨l, vs, e1, e2, e3, e4⟩ := er.own i _ e
    exact ⟨_, e1, fun l => hq _ H (Same.refl H) l (.own e2 e3 e4)⟩
  · cases hg
theorem pu_of {t : TE} {d : D} (h : PE X e t) (hc : ∀ σ H Q, (∀ v, (∀ F, Dq X.K F v d) → Q v H) → t σ H Q) : PuE X e (eC d) := PE.conv h fun σ H Q lk ⟨O, ρ, d', er, hg, hq⟩ => by
  cases hg
  exact hc σ H _ fun v hv l => hq v H (Same.refl H) l (hv _)
theorem pu_int {i : Int} {j} : PuE X (.Constant (.int i) j pos) (eC (.int i)) := pu_of pe_int fun σ H Q h => h _ fun _ => .int i
theorem pu_bl {i : Bool} {j} : PuE X (.Constant (.bool i) j pos) (eC (.bool i)) := pu_of pe_bl fun σ H Q h => h _ fun _ => .bl i
theorem pu_non {j} : PuE X (.Constant .none j pos) (eC .none) := pu_of pe_non fun σ H Q h => h _ fun _ => .non
theorem pu_str {x : Str} {j} : PuE X (.Constant (.str x) j pos) (eC (.str x)) := pu_of pe_str fun σ H Q h => h _ fun _ => .str x
theorem pu_gint {x : Str} {i : Int} {u : Value} (h : PE X (.Name x pos) (tC (.int i))) : PuE X (.Name x pos) (eC (.int i)) := pu_of h fun σ H Q h => h _ fun _ => .int i
theorem pu_gstr {x z : Str} {u : Value} (h : PE X (.Name x pos) (tC (.str z))) : PuE X (.Name x pos) (eC (.str z)) := pu_of h fun σ H Q h => h _ fun _ => .str z

/-! ### two operands -/
def rD (K : PySem.W.Frag) (f : D → D → Option D) : R2 := fun x y H Q => ∃ O da db d, ThereO O H ∧ LenOk K H ∧ Vw K O H x da ∧ Vw K O H y db ∧ f da db = some d ∧ ∀ v H', Same H H' → Dq K (hid O H') v d → Q v H'
def eBin (f : D → D → Option D) (ga gb : EF) : EF := fun ρ => (ga ρ).bind fun a => (gb ρ).bind fun b => f a b
theorem rD_run {f : D → D → Option D} {ga gb : EF} {K : PySem.W.Frag} {σ : L2.St} {H : Hp} {Q : VK} {O : List Addr} {ρ : Env} {d : D} (er : EnvR K O H ρ σ) (hg : eBin f ga gb ρ = some d) (hq : ∀ v H', Same H H' → Dq K (hid O H') v d → Q v H') : tOp (rD K f) (tV K ga) (tV K gb) σ H Q := by
  unfold eBin at hg
  obtain ⟨da, e1, hg⟩ := Option.bind_eq_some_iff.mp hg
  obtain ⟨db, e2, hg⟩ := Option.bind_eq_some_iff.mp hg
  refine ⟨O, ρ, da, er, e1, fun x H1 s1 l1 v1 => ⟨O, ρ, db, er.mono s1, e2, fun y H2 s2 l2 v2 => ?_⟩⟩
  exact ⟨O, da, db, d, ThereO.mono (s1.trans s2) er.there, l2, v1.mono s2, v2, hg, fun v H' s3 dp => hq v H' (s1.trans (s2.trans s3)) dp⟩
theorem pu_bin {op : Operator} {f : D → D → Option D} (ho : OpR X (binaryOp op) (rD X.K f)) (ha : PuV X a ga) (hb : PuV X b gb) : PuE X (.BinOp a op b pos) (eBin f ga gb) :=
  PE.conv (pe_op ho ha hb) fun σ H Q lk ⟨O, ρ, d, er, hg, hq⟩ => rD_run er hg fun v H' s dp l => hq v H' s l dp
theorem pu_cmp {op : CmpOp} {f : D → D → Option D} (ho : OpR X (compareOp op) (rD X.K f)) (ha : PuV X a ga) (hb : PuV X b gb) (hm : behindInMarks op b = false) : PuE X (.Compare a [op] [b] pos) (eBin f ga gb) :=
  PE.conv (pe_cmpR ho ha hb hm) fun σ H Q lk ⟨O, ρ, d, er, hg, hq⟩ => rD_run er hg fun v H' s dp l => hq v H' s l dp
def asB : D → Option Bool
  | .bool b => some b
  | _ => none
def tOf (g : EF) : TF := fun ρ => (g ρ).bind asB
theorem asB_some {d : D} {b : Bool} (h : asB d = some b) : d = .bool b := by
  cases d with
  | bool x => cases h; rfl
  | _ => cases h
theorem tOf_some {g : EF} {ρ : Env} {b : Bool} (h : tOf g ρ = some b) : g ρ = some (.bool b) := by
  obtain ⟨d, e1, e2⟩ := Option.bind_eq_some_iff.mp h
  rw [e1, asB_some e2]
theorem pt_cmp' {op : CmpOp} {f : D → D → Option D} (ho : OpR X (compareOp op) (rD X.K f)) (ha : PuV X a ga) (hb : PuV X b gb) (hm : behindInMarks op b = false) : PuT X (.Compare a [op] [b] pos) (tOf (eBin f ga gb)) :=
  PT.conv (pt_cmpR ho ha hb hm) fun σ H Q lk ⟨O, ρ, k, er, hg, hq⟩ => rD_run er (tOf_some hg) fun v H' s dp => by
    cases dp
    exact ⟨k, rfl, fun l => hq H' s l⟩
/-- a op b op' c -/
def eChain (f f' : D → D → Option D) (ga gb gc : EF) : EF := fun ρ => (ga ρ).bind fun a => (gb ρ).bind fun b => (f a b).bind fun k => (asB k).bind fun k => if k = true then (gc ρ).bind fun c => f' b c else some (.bool false)
theorem chain_run {f f' : D → D → Option D} {ga gb gc : EF} {K : PySem.W.Frag} {σ : L2.St} {H : Hp} {Q : VK} {O : List Addr} {ρ : Env} {d : D} (er : EnvR K O H ρ σ) (hg : eChain f f' ga gb gc ρ = some d) (hq : ∀ v H', Same H H' → Dq K (hid O H') v d → Q v H') : tChain (rD K f) (rD K f') (tV K ga) (tV K gb) (tV K gc) σ H Q := by
  unfold eChain at hg
  obtain ⟨da, e1, hg⟩ := Option.bind_eq_some_iff.mp hg
  obtain ⟨db, e2, hg⟩ := Option.bind_eq_some_iff.mp hg
  obtain ⟨k0, e3, hg⟩ := Option.bind_eq_some_iff.mp hg
  obtain ⟨k, e4, hg5⟩ := Option.bind_eq_some_iff.mp hg
  have e4' := asB_some e4
  subst e4'
  refine ⟨O, ρ, da, er, e1, fun x H1 s1 l1 v1 => ⟨O, ρ, db, er.mono s1, e2, fun y H2 s2 l2 v2 => ?_⟩⟩
  refine ⟨O, da, db, _, ThereO.mono (s1.trans s2) er.there, l2, v1.mono s2, v2, e3, fun v H3 s3 dp => ?_⟩
  cases dp
  refine ⟨k, rfl, ?_⟩
  cases k with
  | false =>
    rw [if_neg (by decide)] at hg5 ⊢
    cases hg5
    exact hq _ _ (s1.trans (s2.trans s3)) (.bl false)
  | true =>
    rw [if_pos rfl] at hg5 ⊢
    obtain ⟨dc, e5, hg6⟩ := Option.bind_eq_some_iff.mp hg5
    refine ⟨O, ρ, dc, er.mono (s1.trans (s2.trans s3)), e5, fun z H4 s4 l4 v4 => ?_⟩
    exact ⟨O, db, dc, d, ThereO.mono (s1.trans (s2.trans (s3.trans s4))) er.there, l4, v2.mono (s3.trans s4), v4, hg6, fun v H' s5 dp => hq v H' (s1.trans (s2.trans (s3.trans (s4.trans s5)))) dp⟩
theorem pu_chain {op op' : CmpOp} {f f' : D → D → Option D} (ho : OpR X (compareOp op) (rD X.K f)) (ho' : OpR X (compareOp op') (rD X.K f')) (ha : PuV X a ga) (hb : PuV X b gb) (hc : PuV X c gc)
    (hm : lastMarks [op, op'] [b, c] = false := by with_unfolding_all rfl) : PuE X (.Compare a [op, op'] [b, c] pos) (eChain f f' ga gb gc) :=
  PE.conv (pe_chain ho ho' ha hb hc hm) fun σ H Q lk ⟨O, ρ, d, er, hg, hq⟩ => chain_run er hg fun v H' s dp l => hq v H' s l dp
theorem pt_chain' {op op' : CmpOp} {f f' : D → D → Option D} (ho : OpR X (compareOp op) (rD X.K f)) (ho' : OpR X (compareOp op') (rD X.K f')) (ha : PuV X a ga) (hb : PuV X b gb) (hc : PuV X c gc)
    (hm : lastMarks [op, op'] [b, c] = false := by with_unfolding_all rfl) : PuT X (.Compare a [op, op'] [b, c] pos) (tOf (eChain f f' ga gb gc)) :=
  PT.conv (pt_chain ho ho' ha hb hc hm) fun σ H Q lk ⟨O, ρ, k, er, hg, hq⟩ => chain_run er (tOf_some hg) fun v H' s dp => by
    cases dp
    exact ⟨k, rfl, fun l => hq H' s l⟩

/-! ### tests -/
def truD : D → Option Bool
  | .none => some false
  | .bool b => some b
  | .int i => some (i != 0)
  | .str z => if z.length ≤ LIM then some ((z.length : Int) != 0) else none
  | .list xs => some (!xs.isEmpty)
  | .tuple xs => some (!xs.isEmpty)
  | .dict _ => none
def tTru (g : EF) : TF := fun ρ => (g ρ).bind truD
theorem isEmpty_dp {K : PySem.W.Frag} {H : Hp} {vs : List V} {ds : List D} (h : DqAll K H vs ds) : vs.isEmpty = ds.isEmpty := by cases h <;> rfl
theorem pt_tru (ha : PuV X a ga) (he : ∀ whole, isTrue a X.env whole = (do let v ← whole; standAt a.pos; holding [v] (truthy v)) := by intro _; rfl) : PuT X a (tTru ga) :=
  PT.conv (pt_truth ha he) fun σ H Q lk ⟨O, ρ, k, er, hg, hq⟩ => by
    obtain ⟨d, e1, e2⟩ := Option.bind_eq_some_iff.mp hg
    refine ⟨O, ρ, d, er, e1, fun v H' s l vw => ⟨k, ?_, fun l' => hq H' s l'⟩⟩
    cases d with
    | none => cases vw.non; cases e2; rfl
    | bool b => cases vw.bl; cases e2; rfl
    | int i => cases vw.int; cases e2; rfl
    | str z =>
      cases vw.str
      unfold truD at e2
      dsimp only at e2
      split at e2
      · rename_i h
        cases e2
        exact ⟨by rw [lim_eq]; exact h, rfl⟩
      · cases e2
    | list xs =>
      obtain ⟨p, vs, rfl, hs, ha⟩ := vw.lst
      cases e2
      exact .inl ⟨vs, .inl hs, by rw [isEmpty_dp ha]⟩
    | tuple xs =>
      obtain ⟨p, vs, rfl, hs, ha⟩ := vw.tup
      cases e2
      exact .inr (.inl ⟨vs, hs, by rw [isEmpty_dp ha]⟩)
    | dict _ => cases e2
variable {tA tB : TF} {rest : List Expr}
def tAnd' (t u : TF) : TF := fun ρ => (t ρ).bind fun c => if c = true then u ρ else some false
def tOr' (t u : TF) : TF := fun ρ => (t ρ).bind fun c => if c = true then some true else u ρ
def tNot' (t : TF) : TF := fun ρ => (t ρ).map fun c => !c
abbrev PuW (X : Cx) (e : Expr) (g : TF) : Prop := PW X e (tT X.K g)
theorem PW.conv {X : Cx} {e : Expr} {t t' : TT} (h : PW X e t) (hc : ∀ σ H Q, LenOk X.K H → t' σ H Q → t σ H (fun v H' => LenOk X.K H' → Q v H')) : PW X e t' := ⟨fun wh pins s σ H Q I q =>
  thn (h.run wh pins s σ H _ I (hc σ H Q (lenOk_of I) q)) fun _ _ ⟨H', I', q'⟩ => ⟨H', I', q' (lenOk_of I')⟩⟩
theorem pw_and1' (ha : PuT X a tA) : PuW X (.BoolOp .And [a] pos) tA := pw_and1 ha
theorem pw_or1' (ha : PuT X a tA) : PuW X (.BoolOp .Or [a] pos) tA := pw_or1 ha
theorem pw_and' (ha : PuT X a tA) (hb : PuW X (.BoolOp .And (b :: rest) pos) tB) : PuW X (.BoolOp .And (a :: b :: rest) pos) (tAnd' tA tB) :=
  PW.conv (pw_and ha hb) fun σ H Q lk ⟨O, ρ, k, er, hg, hq⟩ => by
    obtain ⟨c, e1, e2⟩ := Option.bind_eq_some_iff.mp hg
    refine ⟨O, ρ, c, er, e1, fun H1 s1 l1 => ?_⟩
    cases c with
    | true => exact ⟨O, ρ, k, er.mono s1, e2, fun H2 s2 l2 _ => hq H2 (s1.trans s2) l2⟩
    | false => cases e2; exact fun _ => hq H1 s1 l1
theorem pw_or' (ha : PuT X a tA) (hb : PuW X (.BoolOp .Or (b :: rest) pos) tB) : PuW X (.BoolOp .Or (a :: b :: rest) pos) (tOr' tA tB) :=
  PW.conv (pw_or ha hb) fun σ H Q lk ⟨O, ρ, k, er, hg, hq⟩ => by
    obtain ⟨c, e1, e2⟩ := Option.bind_eq_some_iff.mp hg
    refine ⟨O, ρ, c, er, e1, fun H1 s1 l1 => ?_⟩
    cases c with
    | false => exact ⟨O, ρ, k, er.mono s1, e2, fun H2 s2 l2 _ => hq H2 (s1.trans s2) l2⟩
    | true => cases e2; exact fun _ => hq H1 s1 l1
theorem pt_not' (ha : PuT X a tA) : PuT X (.UnaryOp .Not a pos) (tNot' tA) :=
  PT.conv (pt_not ha) fun σ H Q lk ⟨O, ρ, k, er, hg, hq⟩ => by
    unfold tNot' at hg
    obtain ⟨c, e1, e2⟩ := Option.map_eq_some_iff.mp hg
    exact ⟨O, ρ, c, er, e1, fun H1 s1 l1 _ => by rw [e2]; exact hq H1 s1 l1⟩
/-- and, or, not as values -/
def eAnd (g h : EF) : EF := fun ρ => (g ρ).bind fun a => (asB a).bind fun c => if c = true then h ρ else some (.bool false)
def eOr (g h : EF) : EF := fun ρ => (g ρ).bind fun a => (asB a).bind fun c => if c = true then some (.bool true) else h ρ
def eNot (g : EF) : EF := fun ρ => (g ρ).bind fun a => (asB a).map fun c => .bool (!c)
theorem pu_one {op} (ha : PuE X a ga) : PuE X (.BoolOp op [a] pos) ga := pe_one ha
theorem pu_and (ha : PuE X a ga) (hb : PuE X (.BoolOp .And (b :: rest) pos) gb) : PuE X (.BoolOp .And (a :: b :: rest) pos) (eAnd ga gb) :=
  PE.conv (pe_and ha hb) fun σ H Q lk ⟨O, ρ, d, er, hg, hq⟩ => by
    obtain ⟨da, e1, hg⟩ := Option.bind_eq_some_iff.mp hg
    obtain ⟨c, e2, hg⟩ := Option.bind_eq_some_iff.mp hg
    have e2' := asB_some e2
    subst e2'
    refine ⟨O, ρ, _, er, e1, fun v H1 s1 l1 dp => ?_⟩
    cases dp
    refine ⟨c, rfl, ?_⟩
    cases c with
    | true => exact ⟨O, ρ, d, er.mono s1, hg, fun w H2 s2 l2 dp _ => hq w H2 (s1.trans s2) l2 dp⟩
    | false => cases hg; exact fun _ => hq _ H1 s1 l1 (.bl false)
theorem pu_or (ha : PuE X a ga) (hb : PuE X (.BoolOp .Or (b :: rest) pos) gb) : PuE X (.BoolOp .Or (a :: b :: rest) pos) (eOr ga gb) :=
  PE.conv (pe_or ha hb) fun σ H Q lk ⟨O, ρ, d, er, hg, hq⟩ => by
    obtain ⟨da, e1, hg⟩ := Option.bind_eq_some_iff.mp hg
    obtain ⟨c, e2, hg⟩ := Option.bind_eq_some_iff.mp hg
    have e2' := asB_some e2
    subst e2'
    refine ⟨O, ρ, _, er, e1, fun v H1 s1 l1 dp => ?_⟩
    cases dp
    refine ⟨c, rfl, ?_⟩
    cases c with
    | false => exact ⟨O, ρ, d, er.mono s1, hg, fun w H2 s2 l2 dp _ => hq w H2 (s1.trans s2) l2 dp⟩
    | true => cases hg; exact fun _ => hq _ H1 s1 l1 (.bl true)
theorem pu_not (ha : PuE X a ga) : PuE X (.UnaryOp .Not a pos) (eNot ga) :=
  PE.conv (pe_not ha) fun σ H Q lk ⟨O, ρ, d, er, hg, hq⟩ => by
    obtain ⟨da, e1, hg⟩ := Option.bind_eq_some_iff.mp hg
    obtain ⟨c, e2, e3⟩ := Option.map_eq_some_iff.mp hg
    have e2' := asB_some e2
    subst e2'
    refine ⟨O, ρ, _, er, e1, fun v H1 s1 l1 dp => ?_⟩
    cases dp
    exact ⟨c, rfl, fun _ => by subst e3; exact hq _ H1 s1 l1 (.bl _)⟩
/-- a if t else b -/
def eIf (t : TF) (g h : EF) : EF := fun ρ => (t ρ).bind fun c => if c = true then g ρ else h ρ
theorem pu_if (hc : PuT X c tA) (ha : PuE X a ga) (hb : PuE X b gb) : PuE X (.IfExp c a b pos) (eIf tA ga gb) :=
  PE.conv (pe_ifExp hc ha hb) fun σ H Q lk ⟨O, ρ, d, er, hg, hq⟩ => by
    obtain ⟨c, e1, hg⟩ := Option.bind_eq_some_iff.mp hg
    refine ⟨O, ρ, c, er, e1, fun H1 s1 l1 => ?_⟩
    cases c with
    | true => exact ⟨O, ρ, d, er.mono s1, hg, fun w H2 s2 l2 dp _ => hq w H2 (s1.trans s2) l2 dp⟩
    | false => exact ⟨O, ρ, d, er.mono s1, hg, fun w H2 s2 l2 dp _ => hq w H2 (s1.trans s2) l2 dp⟩
/-- a bool whose test is its value -/
theorem pu_tOf {e : Expr} {g : EF} (h : PuT X e (tTru g)) : PuT X e (tTru g) := h
/-! ### one operand -/
def eUn (f : D → Option D) (g : EF) : EF := fun ρ => (g ρ).bind f
def rU1 (K : PySem.W.Frag) (f : D → Option D) : V → Hp → VK → Prop := fun x H Q => ∃ O da d, ThereO O H ∧ LenOk K H ∧ Vw K O H x da ∧ f da = some d ∧ ∀ v H', Same H H' → Dq K (hid O H') v d → Q v H'
theorem pu_un {op : UnaryOp} {f : D → Option D} (ho : UnR X (unaryOp op) (rU1 X.K f)) (ha : PuV X a ga) : PuE X (.UnaryOp op a pos) (eUn f ga) :=
  PE.conv (pe_un ho ha) fun σ H Q lk ⟨O, ρ, d, er, hg, hq⟩ => by
    obtain ⟨da, e1, e2⟩ := Option.bind_eq_some_iff.mp hg
    exact ⟨O, ρ, da, er, e1, fun x H1 s1 l1 v1 => ⟨O, da, d, ThereO.mono s1 er.there, l1, v1, e2, fun v H' s2 dp l => hq v H' (s1.trans s2) l dp⟩⟩
/-! ### subscripts -/
theorem pu_ix {f : D → D → Option D} (ho : IxR X (rD X.K f)) (ha : PuV X a ga) (hb : PuV X b gb) (hs : PlainIx b) : PuE X (.Subscript a b pos) (eBin f ga gb) :=
  PE.conv (pe_ix ho ha hb hs) fun σ H Q lk ⟨O, ρ, d, er, hg, hq⟩ => rD_run er hg fun v H' s dp l => hq v H' s l dp
abbrev OF := Env → Option (Option Int)
def oN : OF := fun _ => some none
def asI : D → Option Int
  | .int i => some i
  | _ => none
def oS (g : EF) : OF := fun ρ => (g ρ).bind fun d => (asI d).map some
theorem asI_some {d : D} {i : Int} (h : asI d = some i) : d = .int i := by
  cases d with
  | int x => cases h; rfl
  | _ => cases h
def tO (K : PySem.W.Frag) (g : OF) : TO := fun σ H Q => ∃ O ρ o, EnvR K O H ρ σ ∧ g ρ = some o ∧ ∀ H', Same H H' → LenOk K H' → Q o H'
abbrev PuO (X : Cx) (e : Option Expr) (g : OF) : Prop := PO X e (tO X.K g)
theorem PO.conv {X : Cx} {e : Option Expr} {t t' : TO} (h : PO X e t) (hc : ∀ σ H Q, LenOk X.K H → t' σ H Q → t σ H (fun o H' => LenOk X.K H' → Q o H')) : PO X e t' := ⟨fun pins s σ H Q I q =>
  thn (h.run pins s σ H _ I (hc σ H Q (lenOk_of I) q)) fun _ _ ⟨o, H', I', r, q'⟩ => ⟨o, H', I', r, q' (lenOk_of I')⟩⟩
theorem po_none' : PuO X none oN := PO.conv po_none fun σ H Q lk ⟨O, ρ, o, er, hg, hq⟩ => by
  cases hg
  exact fun l => hq H (Same.refl H) l
theorem po_some' (h : PuV X e ga) : PuO X (some e) (oS ga) := PO.conv (po_some h) fun σ H Q lk ⟨O, ρ, o, er, hg, hq⟩ => by
  obtain ⟨d, e1, hg⟩ := Option.bind_eq_some_iff.mp hg
  obtain ⟨i, e2, e3⟩ := Option.map_eq_some_iff.mp hg
  have e2' := asI_some e2
  subst e2' e3
  exact ⟨O, ρ, _, er, e1, fun v H' s l vw => ⟨i, vw.int, fun l => hq H' s l⟩⟩
def eSl (f : D → Option Int → Option Int → Option D) (g : EF) (lo hi : OF) : EF := fun ρ => (g ρ).bind fun a => (lo ρ).bind fun l => (hi ρ).bind fun h => f a l h
def rSlD (K : PySem.W.Frag) (f : D → Option Int → Option Int → Option D) : V → Option Int → Option Int → Hp → VK → Prop := fun x lo hi H Q => ∃ O da d, ThereO O H ∧ LenOk K H ∧ Vw K O H x da ∧ f da lo hi = some d ∧ ∀ v H', Same H H' → Dq K (hid O H') v d → Q v H'
theorem pu_sl {lo hi : Option Expr} {gl gh : OF} {p2 : Pos} {f : D → Option Int → Option Int → Option D} (hr : SlR X (rSlD X.K f)) (he : PuV X e ga) (hl : PuO X lo gl) (hu : PuO X hi gh) : PuE X (.Subscript e (.Slice lo hi none p2) pos) (eSl f ga gl gh) :=
  PE.conv (pe_slice hr he hl hu) fun σ H Q lk ⟨O, ρ, d, er, hg, hq⟩ => by
    obtain ⟨da, e1, hg⟩ := Option.bind_eq_some_iff.mp hg
    obtain ⟨l, e2, hg⟩ := Option.bind_eq_some_iff.mp hg
    obtain ⟨h, e3, hg⟩ := Option.bind_eq_some_iff.mp hg
    refine ⟨O, ρ, da, er, e1, fun x H1 s1 l1 v1 => ⟨O, ρ, l, er.mono s1, e2, fun H2 s2 l2 => ⟨O, ρ, h, er.mono (s1.trans s2), e3, fun H3 s3 l3 => ?_⟩⟩⟩
    exact ⟨O, da, d, ThereO.mono (s1.trans (s2.trans s3)) er.there, l3, v1.mono (s2.trans s3), hg, fun v H' s4 dp l => hq v H' (s1.trans (s2.trans (s3.trans s4))) l dp⟩
/-! ### lists of arguments -/
def aNil : AF := fun _ => some []
def aCons (g : EF) (r : AF) : AF := fun ρ => (g ρ).bind fun d => (r ρ).map fun ds => d :: ds
def tAV (K : PySem.W.Frag) (g : AF) : TA := fun σ H Q => ∃ O ρ ds, EnvR K O H ρ σ ∧ g ρ = some ds ∧ ∀ vs H', Same H H' → LenOk K H' → VwAll K O H' vs ds → Q vs H'
def tAP (K : PySem.W.Frag) (g : AF) : TA := fun σ H Q => ∃ O ρ ds, EnvR K O H ρ σ ∧ g ρ = some ds ∧ ∀ vs H', Same H H' → LenOk K H' → DqAll K (hid O H') vs ds → Q vs H'
abbrev PuAV (X : Cx) (es : List Expr) (g : AF) : Prop := PA X es (tAV X.K g)
abbrev PuA (X : Cx) (es : List Expr) (g : AF) : Prop := PA X es (tAP X.K g)
theorem PA.conv {X : Cx} {es : List Expr} {t t' : TA} (h : PA X es t) (hc : ∀ σ H Q, LenOk X.K H → t' σ H Q → t σ H (fun v H' => LenOk X.K H' → Q v H')) : PA X es t' := ⟨fun pos pins s σ H Q I q =>
  thn (h.run pos pins s σ H _ I (hc σ H Q (lenOk_of I) q)) fun _ _ ⟨v, H', I', r, q'⟩ => ⟨v, H', I', r, q' (lenOk_of I')⟩⟩
variable {es : List Expr} {gs : AF}
theorem pav_nil : PuAV X [] aNil := PA.conv pa_nil fun σ H Q lk ⟨O, ρ, d, er, hg, hq⟩ => by
  cases hg
  exact fun l => hq [] H (Same.refl H) l .nil
theorem pa_nil' : PuA X [] aNil := PA.conv pa_nil fun σ H Q lk ⟨O, ρ, d, er, hg, hq⟩ => by
  cases hg
  exact fun l => hq [] H (Same.refl H) l .nil
theorem pav_cons (ha : PuV X e ga) (hr : PuAV X es gs) (hs : starEach (e :: es) X.env = (false, eval e X.env) :: starEach es X.env := by rfl) : PuAV X (e :: es) (aCons ga gs) :=
  PA.conv (pa_cons ha hr hs) fun σ H Q lk ⟨O, ρ, ds, er, hg, hq⟩ => by
    obtain ⟨d, e1, hg⟩ := Option.bind_eq_some_iff.mp hg
    obtain ⟨r, e2, e3⟩ := Option.map_eq_some_iff.mp hg
    subst e3
    exact ⟨O, ρ, d, er, e1, fun v H1 s1 l1 v1 => ⟨O, ρ, r, er.mono s1, e2, fun vs H2 s2 l2 v2 _ => hq _ H2 (s1.trans s2) l2 (.cons (v1.mono s2) v2)⟩⟩
theorem pa_cons' (ha : PuE X e ga) (hr : PuA X es gs) (hs : starEach (e :: es) X.env = (false, eval e X.env) :: starEach es X.env := by rfl) : PuA X (e :: es) (aCons ga gs) :=
  PA.conv (pa_cons ha hr hs) fun σ H Q lk ⟨O, ρ, ds, er, hg, hq⟩ => by
    obtain ⟨d, e1, hg⟩ := Option.bind_eq_some_iff.mp hg
    obtain ⟨r, e2, e3⟩ := Option.map_eq_some_iff.mp hg
    subst e3
    exact ⟨O, ρ, d, er, e1, fun v H1 s1 l1 v1 => ⟨O, ρ, r, er.mono s1, e2, fun vs H2 s2 l2 v2 _ => hq _ H2 (s1.trans s2) l2 (.cons (dp_mono (same_hid s2) v1) v2)⟩⟩
/-! ### displays -/
theorem dp_newTup {K : PySem.W.Frag} {O : List Addr} {H : Hp} {p : Addr} {vs : List V} {ds : List D} (hp : H p = none) (t : ThereO O H) (h : DqAll K (hid O H) vs ds) : Dq K (hid O (upd H p (.tup vs))) (.ref p) (.tuple ds) :=
  .tup (.inl (.inl (by rw [hid_out (t.fresh hp)]; exact upd_same))) (dpAll_mono (same_hid (same_upd hp)) h)
theorem dp_newLst {K : PySem.W.Frag} {O : List Addr} {H : Hp} {p : Addr} {vs : List V} {ds : List D} (hp : H p = none) (t : ThereO O H) (h : DqAll K (hid O H) vs ds) : Dq K (hid O (upd H p (.lst vs))) (.ref p) (.list ds) :=
  .lst (.inl (by rw [hid_out (t.fresh hp)]; exact upd_same)) (dpAll_mono (same_hid (same_upd hp)) h)
def eTup (g : AF) : EF := fun ρ => (g ρ).bind fun ds => if ds.length ≤ LIM then some (.tuple ds) else none
def eLst (g : AF) : EF := fun ρ => (g ρ).bind fun ds => if ds.length ≤ LIM then some (.list ds) else none
theorem pu_tup {x1} (h : PuA X es gs) : PuE X (.Tuple es x1 pos) (eTup gs) := PE.conv (pe_tup h) fun σ H Q lk ⟨O, ρ, d, er, hg, hq⟩ => by
  obtain ⟨ds, e1, hg⟩ := Option.bind_eq_some_iff.mp hg
  split at hg
  · rename_i hl
    cases hg
    refine ⟨O, ρ, ds, er, e1, fun vs H' s l dp => ⟨by rw [dpAll_len dp, lim_eq]; exact hl, fun p hp l' => hq _ _ (s.trans (same_upd hp)) l' (dp_newTup hp (ThereO.mono s er.there) dp)⟩⟩
  · cases hg
theorem pu_lst (h : PuA X es gs) : PuE X (.List es pos) (eLst gs) := PE.conv (pe_lst h) fun σ H Q lk ⟨O, ρ, d, er, hg, hq⟩ => by
  obtain ⟨ds, e1, hg⟩ := Option.bind_eq_some_iff.mp hg
  split at hg
  · rename_i hl
    cases hg
    refine ⟨O, ρ, ds, er, e1, fun vs H' s l dp => ⟨by rw [dpAll_len dp, lim_eq]; exact hl, fun p hp l' => hq _ _ (s.trans (same_upd hp)) l' (dp_newLst hp (ThereO.mono s er.there) dp)⟩⟩
  · cases hg
/-! ### calls of built-ins -/
def eCall (f : List D → Option D) (g : AF) : EF := fun ρ => (g ρ).bind f
def rC (K : PySem.W.Frag) (f : List D → Option D) : List V → Hp → VK → Prop := fun vs H Q => ∃ O ds d, ThereO O H ∧ LenOk K H ∧ VwAll K O H vs ds ∧ f ds = some d ∧ ∀ v H', Same H H' → Dq K (hid O H') v d → Q v H'
theorem callB_run {f : List D → Option D} {K : PySem.W.Frag} {σ : L2.St} {H : Hp} {Q : VK} (h : tP K (eCall f gs) σ H Q) : tCB (rC K f) (tAV K gs) σ H (fun v H' => LenOk K H' → Q v H') := by
  obtain ⟨O, ρ, d, er, hg, hq⟩ := h
  obtain ⟨ds, e1, hg⟩ := Option.bind_eq_some_iff.mp hg
  exact ⟨O, ρ, ds, er, e1, fun vs H1 s1 l1 v1 => ⟨O, ds, d, ThereO.mono s1 er.there, l1, v1, hg, fun v H' s2 dp l => hq v H' (s1.trans s2) l dp⟩⟩
variable {x : Str} {p : Pos} {id T : String}
theorem pu_callB {f : List D → Option D} (hc : CallR X (.builtin id) (rC X.K f)) (hg : Gl X x) (hm : X.mg x = none) (hv : bootBuiltins x = some (.builtin id)) (ha : PuAV X (e :: es) gs) (hn : x ≠ "__name__" := by decide) (hdb : (x == ("__debug__" : Str)) = false := by decide)
    (he : starEach (e :: es) X.env = (false, eval e X.env) :: starEach es X.env := by rfl) (hpl : (backTo pos (starEach es X.env)).any (·.1) = false := by rfl) : PuE X (.Call (.Name x p) (e :: es) [] pos) (eCall f gs) :=
  PE.conv (pe_callB hc hg hm hv ha hn hdb he hpl) fun σ H Q lk h => callB_run h
theorem pu_callTy {f : List D → Option D} (hc : CallR X (.type T) (rC X.K f)) (hg : Gl X x) (hm : X.mg x = none) (hv : bootBuiltins x = some (.type T)) (ha : PuAV X (e :: es) gs) (hn : x ≠ "__name__" := by decide) (hdb : (x == ("__debug__" : Str)) = false := by decide)
    (he : starEach (e :: es) X.env = (false, eval e X.env) :: starEach es X.env := by rfl) (hpl : (backTo pos (starEach es X.env)).any (·.1) = false := by rfl) : PuE X (.Call (.Name x p) (e :: es) [] pos) (eCall f gs) :=
  PE.conv (pe_callTy hc hg hm hv ha hn hdb he hpl) fun σ H Q lk h => callB_run h
end
end PL

set_option Elab.async false
set_option linter.all false
set_option maxRecDepth 100000
set_option maxHeartbeats 2000000
/-! PL3: statements, loops, comprehensions, defs over plain data. -/
namespace PL
open PySem L2
inductive Out where
  | nx (ρ : Env) | rt (d : D) | bk (ρ : Env) | ct (ρ : Env)
abbrev SF := Env → Option Out
abbrev GF := D → Env → Option Env
/-- the frame: what stood at the entry stands (Hb); what stood at the loop's start is as it was (F) -/
def OwnB (Hb : Hp) (ρ : Env) (σ : L2.St) : Prop := ∀ i ds l, getS ρ i = .own ds → σ[i]? = some (some (.ref l)) → Hb l = none
/-- what is a list being written there was one here -/
def OwnK (ρ ρ' : Env) (σ σ' : L2.St) : Prop := ∀ i ds, getS ρ' i = .own ds → getS ρ i = .own ds ∧ σ'[i]? = σ[i]?
theorem OwnK.refl (ρ : Env) (σ : L2.St) : OwnK ρ ρ σ σ := fun _ _ h => ⟨h, rfl⟩
theorem OwnK.trans {ρ ρ1 ρ2 : Env} {σ σ1 σ2 : L2.St} (a : OwnK ρ ρ1 σ σ1) (b : OwnK ρ1 ρ2 σ1 σ2) : OwnK ρ ρ2 σ σ2 := fun i ds h => by
  obtain ⟨h1, e1⟩ := b i ds h
  obtain ⟨h2, e2⟩ := a i ds h1
  exact ⟨h2, e1.trans e2⟩
theorem OwnB.kept {Hb : Hp} {ρ ρ' : Env} {σ σ' : L2.St} (b : OwnB Hb ρ σ) (k : OwnK ρ ρ' σ σ') : OwnB Hb ρ' σ' := fun i ds l h e => by
  obtain ⟨h1, e1⟩ := k i ds h
  exact b i ds l h1 (e1 ▸ e)
theorem ownK_dat (ρ : Env) (σ : L2.St) (i : Nat) (d : D) (v : Option V) : OwnK ρ (setS ρ i (.dat d)) σ (σ.set i v) := fun j ds h => by
  rcases get_set_cases ρ i j (.dat d) (by rw [h]; intro z; cases z) with ⟨rfl, _, q⟩ | ⟨ne, q⟩
  · rw [q] at h; cases h
  · rw [q] at h; exact ⟨h, List.getElem?_set_ne (Ne.symm ne)⟩
structure FrR (K : PySem.W.Frag) (Hb F : Hp) (O0 : List Addr) (ρ : Env) (σ : L2.St) (H : Hp) : Prop where
  same : Same Hb H
  there0 : ThereO O0 Hb
  ownB : OwnB Hb ρ σ
  env : ∃ O, EnvR K (O ++ O0) H ρ σ ∧ (∀ l ∈ O, Hb l = none) ∧ Same F (hid (O ++ O0) H)
def endsOk (K : PySem.W.Frag) (Hb F : Hp) (O0 : List Addr) (Dn : Ends) : Out → Prop
  | .nx ρ => ∀ σ H, FrR K Hb F O0 ρ σ H → Dn.nx σ H
  | .rt d => ∀ v H, Same Hb H → Dq K (hid O0 H) v d → Dn.rt v H
  | .bk ρ => ∀ σ H, FrR K Hb F O0 ρ σ H → Dn.bk σ H
  | .ct ρ => ∀ σ H, FrR K Hb F O0 ρ σ H → Dn.ct σ H
def tS (K : PySem.W.Frag) (S : SF) : TS := fun Dn σ H => ∃ Hb F O0 ρ out, FrR K Hb F O0 ρ σ H ∧ S ρ = some out ∧ endsOk K Hb F O0 Dn out
abbrev PuS (X : Cx) (st : Stmt) (S : SF) : Prop := PS X st (tS X.K S)
abbrev PuSs (X : Cx) (st : List Stmt) (S : SF) : Prop := PSs X st (tS X.K S)
theorem FrR.mono {K : PySem.W.Frag} {Hb F : Hp} {O0 : List Addr} {ρ : Env} {σ : L2.St} {H H' : Hp} (s : Same H H') (f : FrR K Hb F O0 ρ σ H) : FrR K Hb F O0 ρ σ H' := by
  obtain ⟨O, e, n, q⟩ := f.env
  exact ⟨f.same.trans s, f.there0, f.ownB, O, e.mono s, n, q.trans (same_hid s)⟩
theorem FrR.less {K : PySem.W.Frag} {Hb F F' : Hp} {O0 : List Addr} {ρ : Env} {σ : L2.St} {H : Hp} (s : Same F' F) (f : FrR K Hb F O0 ρ σ H) : FrR K Hb F' O0 ρ σ H := by
  obtain ⟨O, e, n, q⟩ := f.env
  exact ⟨f.same, f.there0, f.ownB, O, e, n, s.trans q⟩

section
variable {X : Cx} {st : Stmt} {sts : List Stmt} {S T : SF} {e c : Expr} {g : EF} {t : TF} {pos : Pos}
def sNil : SF := fun ρ => some (.nx ρ)
theorem ss_nil : PuSs X [] sNil := PSs.conv pss_nil fun Dn σ H lk ⟨Hb, F, O0, ρ, out, fr, hs, he⟩ => by
  cases hs
  exact he σ H fr
theorem s_pass : PuS X (.Pass pos) sNil := PS.conv ps_pass fun Dn σ H lk ⟨Hb, F, O0, ρ, out, fr, hs, he⟩ => by
  cases hs
  exact he σ H fr
def sThen (o : Out) (T : SF) : Option Out := match o with
  | .nx ρ => T ρ
  | .rt d => some (.rt d)
  | .bk ρ => some (.bk ρ)
  | .ct ρ => some (.ct ρ)
def sSeq (S T : SF) : SF := fun ρ => (S ρ).bind fun o => sThen o T
theorem ss_cons (h1 : PuS X st S) (h2 : PuSs X sts T) : PuSs X (st :: sts) (sSeq S T) := PSs.conv (pss_cons h1 h2) fun Dn σ H lk ⟨Hb, F, O0, ρ, out, fr, hs, he⟩ => by
  obtain ⟨o, e1, e2⟩ := Option.bind_eq_some_iff.mp hs
  refine ⟨Hb, F, O0, ρ, o, fr, e1, ?_⟩
  cases o with
  | nx ρ' => exact fun σ' H' fr' => ⟨Hb, F, O0, ρ', out, fr', e2, he⟩
  | rt d => cases e2; exact he
  | bk ρ' => cases e2; exact he
  | ct ρ' => cases e2; exact he
theorem ss_one (h1 : PuS X st S) : PuSs X [st] S := pss_one h1
def sBrk : SF := fun ρ => some (.bk ρ)
def sCnt : SF := fun ρ => some (.ct ρ)
theorem s_brk : PuS X (.Break pos) sBrk := PS.conv ps_break fun Dn σ H lk ⟨Hb, F, O0, ρ, out, fr, hs, he⟩ => by
  cases hs
  exact he σ H fr
theorem s_cnt : PuS X (.Continue pos) sCnt := PS.conv ps_continue fun Dn σ H lk ⟨Hb, F, O0, ρ, out, fr, hs, he⟩ => by
  cases hs
  exact he σ H fr
def sDrop (g : EF) : SF := fun ρ => (g ρ).map fun _ => .nx ρ
theorem s_expr (h : PuE X e g) (hs : swapsWith e none pos.line X.env = pure false := by rfl) : PuS X (.Expr e pos) (sDrop g) := PS.conv (ps_expr h hs) fun Dn σ H lk ⟨Hb, F, O0, ρ, out, fr, hs, he⟩ => by
  obtain ⟨d, e1, e2⟩ := Option.map_eq_some_iff.mp hs
  subst e2
  obtain ⟨O, er, n, q⟩ := fr.env
  exact ⟨_, ρ, d, er, e1, fun v H' s l dp => he σ H' (fr.mono s)⟩
def sRet (g : EF) : SF := fun ρ => (g ρ).map .rt
theorem s_ret (h : PuE X e g) : PuS X (.Return (some e) pos) (sRet g) := PS.conv (ps_ret h) fun Dn σ H lk ⟨Hb, F, O0, ρ, out, fr, hs, he⟩ => by
  obtain ⟨d, e1, e2⟩ := Option.map_eq_some_iff.mp hs
  subst e2
  obtain ⟨O, er, n, q⟩ := fr.env
  exact ⟨_, ρ, d, er, e1, fun v H' s l dp => he v H' (fr.same.trans s) (dp_mono (same_less fun a m => List.mem_append_right _ m) dp)⟩
def sRetN : SF := fun _ => some (.rt .none)
theorem s_retN : PuS X (.Return none pos) sRetN := PS.conv ps_retN fun Dn σ H lk ⟨Hb, F, O0, ρ, out, fr, hs, he⟩ => by
  cases hs
  exact he .non H fr.same .non
def sIf (t : TF) (S T : SF) : SF := fun ρ => (t ρ).bind fun b => if b = true then S ρ else T ρ
theorem s_if {a b : List Stmt} (hc : PuT X c t) (ha : PuSs X a S) (hb : PuSs X b T) : PuS X (.If c a b pos) (sIf t S T) := PS.conv (ps_if hc ha hb) fun Dn σ H lk ⟨Hb, F, O0, ρ, out, fr, hs, he⟩ => by
  obtain ⟨k, e1, e2⟩ := Option.bind_eq_some_iff.mp hs
  obtain ⟨O, er, n, q⟩ := fr.env
  refine ⟨_, ρ, k, er, e1, fun H1 s l => ?_⟩
  cases k with
  | true => exact ⟨Hb, F, O0, ρ, out, fr.mono s, e2, he⟩
  | false => exact ⟨Hb, F, O0, ρ, out, fr.mono s, e2, he⟩
/-! ### targets -/
def tG (K : PySem.W.Frag) (gg : GF) (is : List Nat) : TG := fun v σ H Q => ∃ O ρ d ρ', EnvR K O H ρ σ ∧ Dq K (hid O H) v d ∧ gg d ρ = some ρ' ∧ ∀ σ', EnvR K O H ρ' σ' → OwnK ρ ρ' σ σ' → (∀ vs : List Nat, (∀ i ∈ is, i ∈ vs) → wipe σ' vs = wipe σ vs) → Q σ' H
abbrev PuG (X : Cx) (tg : Expr) (gg : GF) (is : List Nat) : Prop := PG X tg (tG X.K gg is)
theorem PG.conv {X : Cx} {e : Expr} {t t' : TG} (h : PG X e t) (hc : ∀ v σ H Q, t' v σ H Q → t v σ H Q) : PG X e t' := ⟨fun pins s σ H v u Q I r q => h.run pins s σ H v u Q I r (hc v σ H Q q)⟩
theorem PGs.conv {X : Cx} {e : List Expr} {t t' : TGs} (h : PGs X e t) (hc : ∀ v σ H Q, t' v σ H Q → t v σ H Q) : PGs X e t' := ⟨fun pins s σ H v u Q I r q => h.run pins s σ H v u Q I r (hc v σ H Q q)⟩
theorem wipe_set {i : Nat} {x : Option V} : ∀ {vs : List Nat} {σ : L2.St}, i ∈ vs → wipe (σ.set i x) vs = wipe σ vs
  | [], _, h => by cases h
  | v :: vs, σ, h => by
    show (wipe (σ.set i x) vs).set v none = (wipe σ vs).set v none
    by_cases e : i = v
    · subst e
      by_cases m : i ∈ vs
      · rw [wipe_set m]
      · have : ∀ (ws : List Nat) (σ : L2.St), i ∉ ws → wipe (σ.set i x) ws = (wipe σ ws).set i x := fun ws => by
          induction ws with
          | nil => intro σ _; rfl
          | cons w ws ih =>
            intro σ hw
            show (wipe (σ.set i x) ws).set w none = ((wipe σ ws).set w none).set i x
            rw [ih σ fun z => hw (List.mem_cons_of_mem _ z), List.set_comm]
            intro z
            exact hw (by rw [z]; exact List.mem_cons_self)
        rw [this vs σ m, List.set_set]
    · have m : i ∈ vs := (List.mem_cons.mp h).resolve_left e
      rw [wipe_set m]
def gN (i : Nat) : GF := fun d ρ => some (setS ρ i (.dat d))
theorem pg_n {i : Nat} {x : Str} (h : PG X (.Name x pos) (gName i)) : PuG X (.Name x pos) (gN i) [i] := PG.conv h fun v σ H Q ⟨O, ρ, d, ρ', er, dp, hg, hq⟩ => by
  cases hg
  exact hq _ (er.setD i dp) (ownK_dat ρ σ i d (some v)) fun vs m => wipe_set (m i (by simp))
abbrev GsF := List D → Env → Option Env
def gsN : GsF := fun ds ρ => match ds with
  | [] => some ρ
  | _ :: _ => none
def gsC (g : GF) (r : GsF) : GsF := fun ds ρ => match ds with
  | [] => none
  | d :: ds => (g d ρ).bind fun ρ' => r ds ρ'
def tGs (K : PySem.W.Frag) (gg : GsF) (is : List Nat) : TGs := fun xs σ H Q => ∃ O ρ ds ρ', EnvR K O H ρ σ ∧ DqAll K (hid O H) xs ds ∧ gg ds ρ = some ρ' ∧ ∀ σ', EnvR K O H ρ' σ' → OwnK ρ ρ' σ σ' → (∀ vs : List Nat, (∀ i ∈ is, i ∈ vs) → wipe σ' vs = wipe σ vs) → Q σ' H
abbrev PuGs (X : Cx) (tg : List Expr) (gg : GsF) (is : List Nat) : Prop := PGs X tg (tGs X.K gg is)
theorem pgs_n : PuGs X [] gsN [] := PGs.conv pgs_nil fun xs σ H Q ⟨O, ρ, ds, ρ', er, dp, hg, hq⟩ => by
  cases dp with
  | nil => cases hg; exact ⟨rfl, hq σ er (OwnK.refl ρ σ) fun vs _ => rfl⟩
  | cons a b => cases hg
theorem pgs_c {es : List Expr} {gg : GF} {is js : List Nat} {gr : GsF} (h1 : PuG X e gg is) (h2 : PuGs X es gr js) (hs : (assignEach (e :: es) X.env).map (·.2) = assign e X.env :: (assignEach es X.env).map (·.2) := by rfl) : PuGs X (e :: es) (gsC gg gr) (is ++ js) :=
  PGs.conv (pgs_cons h1 h2 hs) fun xs σ H Q ⟨O, ρ, ds, ρ', er, dp, hg, hq⟩ => by
    cases dp with
    | nil => cases hg
    | cons a b =>
      obtain ⟨ρ1, e1, e2⟩ := Option.bind_eq_some_iff.mp hg
      refine ⟨_, _, rfl, O, ρ, _, ρ1, er, a, e1, fun σ1 er1 k1 w1 => ⟨O, ρ1, _, ρ', er1, b, e2, fun σ2 er2 k2 w2 => hq σ2 er2 (k1.trans k2) fun vs m => ?_⟩⟩
      rw [w2 vs fun i hi => m i (List.mem_append_right _ hi), w1 vs fun i hi => m i (List.mem_append_left _ hi)]
def gT (r : GsF) : GF := fun d ρ => match d with
  | .tuple ds => r ds ρ
  | _ => none
theorem gsN_len {ds : List D} {ρ ρ' : Env} (h : gsN ds ρ = some ρ') : ds.length = 0 := by
  cases ds with
  | nil => rfl
  | cons a b => cases h
theorem gsC_len {gg : GF} {gr : GsF} {n : Nat} (hr : ∀ ds ρ ρ', gr ds ρ = some ρ' → ds.length = n) {ds : List D} {ρ ρ' : Env} (h : gsC gg gr ds ρ = some ρ') : ds.length = n + 1 := by
  cases ds with
  | nil => cases h
  | cons a b =>
    obtain ⟨ρ1, e1, e2⟩ := Option.bind_eq_some_iff.mp h
    rw [List.length_cons, hr b ρ1 ρ' e2]
theorem pg_t {es : List Expr} {k n : Nat} {gr : GsF} {is : List Nat} (hc : X.calm = true) (h : PuGs X es gr is) (hl : ∀ ds ρ ρ', gr ds ρ = some ρ' → ds.length = n)
    (hn : (assignEach es X.env).length = n := by rfl) (hst : (assignEach es X.env).findIdx? (·.1) = none := by rfl) : PuG X (.Tuple es k pos) (gT gr) is := PG.conv (pg_tup hc h hn hst) fun v σ H Q ⟨O, ρ, d, ρ', er, dp, hg, hq⟩ => by
  cases d with
  | tuple ds =>
    obtain ⟨a, vs, rfl, hs, ha⟩ := Dq.tup' dp
    exact ⟨a, vs, rfl, same_seqT same_unhid hs, by rw [dpAll_len ha]; exact hl _ _ _ hg, O, ρ, ds, ρ', er, ha, hg, hq⟩
  | _ => cases hg
/-- target = value -/
def sAsg (gg : GF) (g : EF) : SF := fun ρ => (g ρ).bind fun d => (gg d ρ).map .nx
theorem asg_run {K : PySem.W.Frag} {gg : GF} {is : List Nat} {te : TE} {Dn : Ends} {σ : L2.St} {H : Hp} (h : tS K (sAsg gg g) Dn σ H) : tAsg (tP K g) (tG K gg is) Dn σ H := by
  obtain ⟨Hb, F, O0, ρ, out, fr, hs, he⟩ := h
  obtain ⟨d, e1, hs⟩ := Option.bind_eq_some_iff.mp hs
  obtain ⟨ρ', e2, e3⟩ := Option.map_eq_some_iff.mp hs
  subst e3
  obtain ⟨O, er, n, q⟩ := fr.env
  refine ⟨_, ρ, d, er, e1, fun v H' s l dp => ⟨_, ρ, d, ρ', er.mono s, dp, e2, fun σ' er' k _ => he σ' H' ⟨fr.same.trans s, fr.there0, fr.ownB.kept k, O, er', n, q.trans (same_hid s)⟩⟩⟩
theorem s_asg {tg : Expr} {gg : GF} {is : List Nat} (he : PuE X e g) (hg : PuG X tg gg is) (hs : swapsWithSole [tg] e pos.line X.env = pure false := by rfl) (hw : swappedStores [tg] e X.env = pure none := by rfl)
    (h1 : (assignEach [tg] X.env).map (·.2) = [assign tg X.env] := by rfl) : PuS X (.Assign [tg] e pos) (sAsg gg g) := PS.conv (ps_asg he hg hs hw h1) fun Dn σ H lk h => asg_run (te := tP X.K g) h
def sSet (i : Nat) (g : EF) : SF := fun ρ => (g ρ).map fun d => .nx (setS ρ i (.dat d))
theorem set_run {K : PySem.W.Frag} {i : Nat} {Dn : Ends} {σ : L2.St} {H : Hp} (h : tS K (sSet i g) Dn σ H) : tAsg (tP K g) (gName i) Dn σ H := by
  obtain ⟨Hb, F, O0, ρ, out, fr, hs, he⟩ := h
  obtain ⟨d, e1, e2⟩ := Option.map_eq_some_iff.mp hs
  subst e2
  obtain ⟨O, er, n, q⟩ := fr.env
  exact ⟨_, ρ, d, er, e1, fun v H' s l dp => he _ H' ⟨fr.same.trans s, fr.there0, fr.ownB.kept (ownK_dat ρ σ i d (some v)), O, (er.mono s).setD i dp, n, q.trans (same_hid s)⟩⟩
theorem s_set {i : Nat} {tg : Expr} (h : PS X (.Assign [tg] e pos) (tAsg (tP X.K g) (gName i))) : PuS X (.Assign [tg] e pos) (sSet i g) := PS.conv h fun Dn σ H lk h => set_run h
/-- name = a new list that will be written -/
abbrev LF := Env → Option (List D)
def tF (K : PySem.W.Frag) (g : LF) : TE := fun σ H Q => ∃ O ρ ds, EnvR K O H ρ σ ∧ g ρ = some ds ∧ ∀ l vs H', Same H H' → H l = none → H' l = some (.lst vs) → DqAll K (hid (l :: O) H') vs ds → Q (.ref l) H'
abbrev PuF (X : Cx) (e : Expr) (g : LF) : Prop := PE X e (tF X.K g)
def eL (g : LF) : EF := fun ρ => (g ρ).map .list
theorem puF_e {g : LF} (h : PuF X e g) : PuE X e (eL g) := PE.conv h fun σ H Q lk ⟨O, ρ, d, er, hg, hq⟩ => by
  obtain ⟨ds, e1, e2⟩ := Option.map_eq_some_iff.mp hg
  subst e2
  refine ⟨O, ρ, ds, er, e1, fun l vs H' s hn hl dp lk' => hq _ H' s lk' ?_⟩
  exact .lst (.inl (by rw [hid_out (er.fresh hn)]; exact hl)) (dpAll_mono (same_less fun a m => List.mem_cons_of_mem _ m) dp)
def sNew (i : Nat) (g : LF) : SF := fun ρ => (g ρ).map fun ds => .nx (setS ρ i (.own ds))
theorem new_run {K : PySem.W.Frag} {i : Nat} {g : LF} {Dn : Ends} {σ : L2.St} {H : Hp} (h : tS K (sNew i g) Dn σ H) : tAsg (tF K g) (gName i) Dn σ H := by
  obtain ⟨Hb, F, O0, ρ, out, fr, hs, he⟩ := h
  obtain ⟨ds, e1, e2⟩ := Option.map_eq_some_iff.mp hs
  subst e2
  obtain ⟨O, er, n, q⟩ := fr.env
  refine ⟨_, ρ, ds, er, e1, fun l vs H' s hn hl dp => he _ H' ⟨fr.same.trans s, fr.there0, fun j es l' hj el => ?_, l :: O, er.setO i hn s hl dp, fun a m => ?_, fun a o z => ?_⟩⟩
  · rcases get_set_cases ρ i j (.own ds) (by rw [hj]; intro z; cases z) with ⟨rfl, lt, _⟩ | ⟨ne, q'⟩
    · rw [List.getElem?_set_self (by rw [er.len]; exact lt)] at el
      cases el
      exact fr.same.free hn
    · rw [q'] at hj
      rw [List.getElem?_set_ne (Ne.symm ne)] at el
      exact fr.ownB j es l' hj el
  · rcases List.mem_cons.mp m with z | z
    · subst z; exact fr.same.free hn
    · exact n a z
  · obtain ⟨n1, z1⟩ := hid_some (q a o z)
    have : a ∉ (l :: O) ++ O0 := fun m => by
      rcases List.mem_cons.mp m with z2 | z2
      · subst z2; rw [hn] at z1; cases z1
      · exact n1 z2
    rw [hid_out this]
    exact s a o z1
theorem s_new {i : Nat} {tg : Expr} {g : LF} (h : PS X (.Assign [tg] e pos) (tAsg (tF X.K g) (gName i))) : PuS X (.Assign [tg] e pos) (sNew i g) := PS.conv h fun Dn σ H lk h => new_run h
/-- a list that was being written becomes data -/
def frzE (i : Nat) (ρ : Env) : Env := match getS ρ i with
  | .own ds => setS ρ i (.dat (.list ds))
  | _ => ρ
theorem frr_frz {K : PySem.W.Frag} {Hb F : Hp} {O0 : List Addr} {ρ : Env} {σ : L2.St} {H : Hp} (i : Nat) (fr : FrR K Hb F O0 ρ σ H) : FrR K Hb F O0 (frzE i ρ) σ H := by
  unfold frzE
  split
  · rename_i ds e
    obtain ⟨O, er, n, q⟩ := fr.env
    obtain ⟨l, hl, hs, er'⟩ := er.frz e
    have nl : l ∉ O0 := fun m => by
      obtain ⟨vs, z⟩ := fr.there0 l m
      rw [fr.ownB i ds l e hs] at z; cases z
    have eq : (O ++ O0).filter (· ≠ l) = O.filter (· ≠ l) ++ O0 := by
      rw [List.filter_append]
      congr 1
      exact List.filter_eq_self.mpr fun a m => by
        have : a ≠ l := fun z => nl (by rw [← z]; exact m)
        simpa using this
    rw [eq] at er'
    refine ⟨fr.same, fr.there0, fr.ownB.kept fun j es h => ?_, O.filter (· ≠ l), er', fun a m => n a (List.mem_filter.mp m).1, q.trans (same_less fun a m => ?_)⟩
    · rcases get_set_cases ρ i j (.dat (.list ds)) (by rw [h]; intro z; cases z) with ⟨rfl, _, q⟩ | ⟨ne, q⟩
      · rw [q] at h; cases h
      · rw [q] at h; exact ⟨h, rfl⟩
    rcases List.mem_append.mp m with z | z
    · exact List.mem_append_left _ (List.mem_filter.mp z).1
    · exact List.mem_append_right _ z
  · exact fr
def sFrz (i : Nat) (S : SF) : SF := fun ρ => S (frzE i ρ)
theorem s_frz (i : Nat) (h : PuS X st S) : PuS X st (sFrz i S) := PS.conv h fun Dn σ H lk ⟨Hb, F, O0, ρ, out, fr, hs, he⟩ => ⟨Hb, F, O0, _, out, frr_frz i fr, hs, he⟩
theorem ss_frz (i : Nat) (h : PuSs X sts S) : PuSs X sts (sFrz i S) := PSs.conv h fun Dn σ H lk ⟨Hb, F, O0, ρ, out, fr, hs, he⟩ => ⟨Hb, F, O0, _, out, frr_frz i fr, hs, he⟩
/-! ### lists that are written -/
theorem frr_up {K : PySem.W.Frag} {Hb F : Hp} {O0 O : List Addr} {ρ : Env} {σ : L2.St} {H : Hp} {i : Nat} {ds es : List D} {l : Addr} {ws : List V} (same : Same Hb H) (t0 : ThereO O0 Hb) (ob : OwnB Hb ρ σ) (er : EnvR K (O ++ O0) H ρ σ) (n : ∀ l ∈ O, Hb l = none) (q : Same F (hid (O ++ O0) H))
    (hi : getS ρ i = .own ds) (hl : σ[i]? = some (some (.ref l))) (h : DqAll K (hid (O ++ O0) H) ws es) : FrR K Hb F O0 (setS ρ i (.own es)) σ (upd H l (.lst ws)) := by
  obtain ⟨l', vs, a, lO, hH, _⟩ := er.own i ds hi
  rw [hl] at a; cases a
  have hn := ob i ds l hi hl
  refine ⟨fun b o z => ?_, t0, fun j fs l' hj el => ?_, O, er.upO hi hl h, n, by rw [hid_upd lO]; exact q⟩
  · rw [upd_ne (fun e => by rw [e, hn] at z; cases z)]
    exact same b o z
  · rcases get_set_cases ρ i j (.own es) (by rw [hj]; intro z; cases z) with ⟨rfl, _, _⟩ | ⟨ne, q'⟩
    · rw [hl] at el; cases el; exact hn
    · rw [q'] at hj; exact ob j fs l' hj el
def sApp (i : Nat) (g : EF) : SF := fun ρ => match getS ρ i with
  | .own ds => (g ρ).bind fun d => if ds.length < LIM then some (.nx (setS ρ i (.own (ds ++ [d])))) else none
  | _ => none
theorem s_app {i : Nat} {x : Str} {p apos : Pos} (ho : PE X (.Name x p) (tVar i)) (ha : PuE X e g) (hsw : swapsWith (.Call (.Attribute (.Name x p) "append" apos) [e] [] pos) none pos.line X.env = pure false := by rfl)
    (hbase : attributeBase (.Name x p) "append" X.env (eval (.Name x p) X.env) = eval (.Name x p) X.env := by rfl)
    (hfew : ((backTo pos (starEach [e] X.env)).all (fun x => !x.1) && (backToKw pos (keywordEach [] X.env)).all (fun x => x.1.isSome)
      && decide (([e] : List Expr).length + ([] : List Keyword).length + (if ([] : List Keyword).isEmpty then 0 else 1) < 30)) = true := by rfl)
    (hline : (apos.endLine == pos.line) = true := by rfl) (hs : starEach [e] X.env = (false, eval e X.env) :: starEach [] X.env := by rfl) (hplain : (backTo pos (starEach [] X.env)).any (·.1) = false := by rfl) :
    PuS X (.Expr (.Call (.Attribute (.Name x p) "append" apos) [e] [] pos) pos) (sApp i g) :=
  PS.conv (ps_expr (pe_bm PySem.F.plainAttrs_list PySem.F.slot_list_append PySem.F.type_list_append mt_append ho (pa_cons ha pa_nil hs) hbase hfew hline hs hplain) hsw) fun Dn σ H lk ⟨Hb, F, O0, ρ, out, fr, hs, he⟩ => by
    unfold sApp at hs
    split at hs
    · rename_i ds e0
      obtain ⟨d, e1, e2⟩ := Option.bind_eq_some_iff.mp hs
      split at e2
      · rename_i hlt
        cases e2
        obtain ⟨O, er, n, q⟩ := fr.env
        obtain ⟨l, vs, el, lO, hH, hd⟩ := er.own i ds e0
        refine ⟨.ref l, el, .inl ⟨rfl, vs, .inl (.inl hH)⟩, _, ρ, d, er, e1, fun v H' s lk' dp => ?_⟩
        refine ⟨l, vs, v, rfl, rfl, s _ _ hH, by rw [dpAll_len hd, lim_eq]; exact hlt, ?_⟩
        exact he _ _ (frr_up (fr.same.trans s) fr.there0 fr.ownB (er.mono s) n (q.trans (same_hid s)) e0 el (dpAll_app (dpAll_mono (same_hid s) hd) (.cons dp .nil)))
      · cases e2
    · cases hs
def sExt (i : Nat) (g : EF) : SF := fun ρ => match getS ρ i with
  | .own ds => (g ρ).bind fun d => match d with
    | .list es => if ds.length + es.length ≤ LIM then some (.nx (setS ρ i (.own (ds ++ es)))) else none
    | _ => none
  | _ => none
/-! ### what a for walks -/
structure WalkOf (K : PySem.W.Frag) (J : It) (B F0 : Hp) (ds : List D) : Prop where
  go : ∀ i H, Same B H → i < ds.length → J.go i H
  yld : ∀ i H x H' d, Same B H → ds[i]? = some d → J.yld i H x H' → Same H H' ∧ ∀ O, ThereO O H → Same F0 (hid O H) → Dq K (hid O H') x d
  stop : ∀ i H, Same B H → ds.length ≤ i → J.stop i H
theorem WalkOf.mono {K : PySem.W.Frag} {J : It} {B B' F0 : Hp} {ds : List D} (s : Same B B') (w : WalkOf K J B F0 ds) : WalkOf K J B' F0 ds :=
  ⟨fun i H h => w.go i H (s.trans h), fun i H x H' d h => w.yld i H x H' d (s.trans h), fun i H h => w.stop i H (s.trans h)⟩
/-- of data (for); of a view (comprehensions) -/
def tI (K : PySem.W.Frag) (gi : LF) : TI := fun σ H R => ∃ O ρ ds, EnvR K O H ρ σ ∧ gi ρ = some ds ∧ ∀ J H', Same H H' → LenOk K H' → ds.length ≤ LIM → WalkOf K J (hid O H') (hid O H') ds → R J H'
def tIV (K : PySem.W.Frag) (gi : LF) : TI := fun σ H R => ∃ O ρ ds, EnvR K O H ρ σ ∧ gi ρ = some ds ∧ ∀ J H', Same H H' → LenOk K H' → ds.length ≤ LIM → WalkOf K J H' (hid O H') ds → R J H'
abbrev PuI (X : Cx) (tg iter : Expr) (gi : LF) : Prop := PI X tg iter (tI X.K gi)
abbrev PuIV (X : Cx) (tg iter : Expr) (gi : LF) : Prop := PI X tg iter (tIV X.K gi)
theorem PI.conv {X : Cx} {tg e : Expr} {t t' : TI} (h : PI X tg e t) (hc : ∀ σ H Q, LenOk X.K H → t' σ H Q → t σ H (fun J H' => LenOk X.K H' → Q J H')) : PI X tg e t' := ⟨fun pins s σ H R I q =>
  thn (h.run pins s σ H _ I (hc σ H R (lenOk_of I) q)) fun _ s1 h1 => thn h1 fun itv s2 ⟨it, fp, tn, J, H', e, I', T, st, f, r⟩ => ⟨it, fp, tn, J, H', e, I', T, st, f, r (lenOk_of I')⟩⟩
theorem pi_v {tg iter : Expr} {gi : LF} (h : PuI X tg iter gi) : PuIV X tg iter gi := PI.conv h fun σ H Q lk ⟨O, ρ, ds, er, hg, hq⟩ => ⟨O, ρ, ds, er, hg, fun J H' s l n w _ => hq J H' s l n (w.mono same_unhid)⟩
theorem walk_list {K : PySem.W.Frag} {B F0 : Hp} {a : Addr} {vs : List V} {ds : List D} (h : SqL K B a vs) (hd : DqAll K F0 vs ds) : WalkOf K (Itl K a) B F0 ds := by
  have hl := dpAll_len hd
  refine ⟨fun i H s lt => ?_, fun i H x H' d s e y => ?_, fun i H s le => ⟨vs, s.seq h, by rw [hl]; exact le⟩⟩
  · exact ⟨vs, vs[i]'(by rw [hl]; exact lt), s.seq h, List.getElem?_eq_getElem _⟩
  · obtain ⟨rfl, y⟩ := y
    refine ⟨Same.refl _, fun O t f => ?_⟩
    obtain ⟨v, e1, e2⟩ := dpAll_get' hd e
    have e3 := y vs (s.seq h)
    rw [e1] at e3
    cases e3
    exact dp_mono f e2
theorem walk_tup {K : PySem.W.Frag} {B F0 : Hp} {a : Addr} {vs : List V} {ds : List D} (h : SqT K B a vs) (hd : DqAll K F0 vs ds) : WalkOf K (Itt K a) B F0 ds := by
  have hl := dpAll_len hd
  refine ⟨fun i H s lt => ?_, fun i H x H' d s e y => ?_, fun i H s le => ⟨vs, same_seqT s h, by rw [hl]; exact le⟩⟩
  · exact ⟨vs, vs[i]'(by rw [hl]; exact lt), same_seqT s h, List.getElem?_eq_getElem _⟩
  · obtain ⟨rfl, y⟩ := y
    refine ⟨Same.refl _, fun O t f => ?_⟩
    obtain ⟨v, e1, e2⟩ := dpAll_get' hd e
    have e3 := y vs (same_seqT s h)
    rw [e1] at e3
    cases e3
    exact dp_mono f e2
/-- a list or a tuple, or a text -/
def iSeq (K : PySem.W.Frag) (tl : TE) : TI := fun σ H R => tl σ H fun x H1 => (∃ a xs, x = .ref a ∧ SqL K H1 a xs ∧ R (Itl K a) H1) ∨ (∃ a xs, x = .ref a ∧ SqT K H1 a xs ∧ R (Itt K a) H1) ∨ (∃ z, x = .str z ∧ R (Its z) H1)
theorem pi_seq {tg l : Expr} {tl : TE} (hl : PE X l tl) : PI X tg l (iSeq X.K tl) := by
  refine ⟨fun pins s σ H R I h => ?_⟩
  refine thn (hl.run pins s σ H _ I h) fun v s1 ⟨x, H1, I1, r1, q1⟩ => ?_
  rcases q1 with ⟨a, xs, e, hq, q⟩ | ⟨a, xs, e, hq, q⟩ | ⟨z, e, q⟩
  · subst e
    cases r1
    obtain ⟨its, rv, p, hz⟩ := I1.list hq
    refine wpAny_pyIter_list p.isList ?_
    refine ⟨s1.heap.objs.size, [s1.heap.objs.size], _, _, H1, rfl, I1.kept (t' := s1.toks) fun b o e => Heap.get?_push_of_some _ e, turn_list a _, ⟨_, Heap.get?_push_size _ rfl, rfl, rfl⟩, fun b hb => ?_, q⟩
    have e : b = s1.heap.objs.size := by simpa using hb
    subst e
    exact I1.fpOk (Nat.le_refl _) (I1.hok.fresh (Nat.le_refl _))
  · subst e
    cases r1
    obtain ⟨its, rv, p, hz⟩ := I1.tuple hq
    refine wpAny_pyIter_tuple (show s1.heap.IsTuple a its.toArray from p) ?_
    refine ⟨s1.heap.objs.size, [s1.heap.objs.size], _, _, H1, rfl, I1.kept (t' := s1.toks) fun b o e => Heap.get?_push_of_some _ e, turn_tuple a _, ⟨_, Heap.get?_push_size _ rfl, rfl, rfl⟩, fun b hb => ?_, q⟩
    have e : b = s1.heap.objs.size := by simpa using hb
    subst e
    exact I1.fpOk (Nat.le_refl _) (I1.hok.fresh (Nat.le_refl _))
  · subst e
    obtain ⟨t, rfl⟩ := r1
    cases ha : z.cps.all (· < 128)
    · exact wpAny_pyIter_wide ha (pi_one (tk := s1.toks) I1 _ (turn_str _ z t "str_iterator" (.inr rfl)) ⟨_, Heap.get?_push_size _ rfl, rfl, rfl⟩ q)
    · exact wpAny_pyIter_ascii ha (pi_one (tk := s1.toks) I1 _ (turn_str _ z t "str_ascii_iterator" (.inl rfl)) ⟨_, Heap.get?_push_size _ rfl, rfl, rfl⟩ q)
def seqD : D → Option (List D)
  | .list ds => some ds
  | .tuple ds => some ds
  | .str z => if z.cps.size ≤ LIM then some (z.cps.toList.map fun c => .str ⟨#[c]⟩) else none
  | _ => none
def lSeq (g : EF) : LF := fun ρ => (g ρ).bind seqD
theorem walk_str {K : PySem.W.Frag} {B F0 : Hp} {z : Str} : WalkOf K (Its z) B F0 (z.cps.toList.map fun c => .str ⟨#[c]⟩) := by
  refine ⟨fun i H s lt => ?_, fun i H x H' d s e y => ?_, fun i H s le => ?_⟩
  · show i < z.cps.size
    simpa using lt
  · obtain ⟨rfl, c, e1, rfl⟩ := y
    refine ⟨Same.refl _, fun O t f => ?_⟩
    rw [List.getElem?_map] at e
    rw [← Array.getElem?_toList] at e1
    rw [e1] at e
    cases e
    exact .str _
  · show z.cps.size ≤ i
    simpa using le
theorem pi_s {tg l : Expr} {g : EF} (h : PuE X l g) : PuI X tg l (lSeq g) := PI.conv (pi_seq h) fun σ H R lk ⟨O, ρ, ds, er, hg, hq⟩ => by
  obtain ⟨d, e1, e2⟩ := Option.bind_eq_some_iff.mp hg
  refine ⟨O, ρ, d, er, e1, fun v H1 s l dp => ?_⟩
  cases d with
  | list xs =>
    cases e2
    obtain ⟨a, vs, rfl, hs, hd⟩ := Dq.lst' dp
    exact .inl ⟨a, vs, rfl, .inl (same_rd same_unhid hs), fun l' => hq _ _ s l' (by rw [← dpAll_len hd, ← lim_eq]; exact l a vs (.inl (.inl (same_rd same_unhid hs)))) (walk_list (.inl hs) hd)⟩
  | tuple xs =>
    cases e2
    obtain ⟨a, vs, rfl, hs, hd⟩ := Dq.tup' dp
    exact .inr (.inl ⟨a, vs, rfl, same_seqT same_unhid hs, fun l' => hq _ _ s l' (by rw [← dpAll_len hd, ← lim_eq]; exact l a vs (.inr (same_seqT same_unhid hs))) (walk_tup hs hd)⟩)
  | str z =>
    unfold seqD at e2
    dsimp only at e2
    split at e2
    · rename_i hz
      cases e2
      cases dp
      exact .inr (.inr ⟨z, rfl, fun l' => hq _ _ s l' (by simpa using hz) walk_str⟩)
    · cases e2
  | _ => cases e2
theorem piv_s {tg l : Expr} {g : EF} (h : PuV X l g) : PuIV X tg l (lSeq g) := PI.conv (pi_seq h) fun σ H R lk ⟨O, ρ, ds, er, hg, hq⟩ => by
  obtain ⟨d, e1, e2⟩ := Option.bind_eq_some_iff.mp hg
  refine ⟨O, ρ, d, er, e1, fun v H1 s l vw => ?_⟩
  cases d with
  | list xs =>
    cases e2
    obtain ⟨a, vs, rfl, hs, hd⟩ := vw.lst
    exact .inl ⟨a, vs, rfl, .inl hs, fun l' => hq _ _ s l' (by rw [← dpAll_len hd, ← lim_eq]; exact l a vs (.inl (.inl hs))) (walk_list (.inl hs) hd)⟩
  | tuple xs =>
    cases e2
    obtain ⟨a, vs, rfl, hs, hd⟩ := vw.tup
    exact .inr (.inl ⟨a, vs, rfl, hs, fun l' => hq _ _ s l' (by rw [← dpAll_len hd, ← lim_eq]; exact l a vs (.inr hs)) (walk_tup hs hd)⟩)
  | str z =>
    unfold seqD at e2
    dsimp only at e2
    split at e2
    · rename_i hz
      cases e2
      cases vw.str
      exact .inr (.inr ⟨z, rfl, fun l' => hq _ _ s l' (by simpa using hz) walk_str⟩)
    · cases e2
  | _ => cases e2
/-! ### ranges -/
def rngL (lo hi : Int) : List D := (List.range (hi - lo).toNat).map fun k => .int (lo + (k : Nat))
def rngD (lo hi : Int) : Option (List D) := if 0 ≤ hi - lo ∧ hi - lo ≤ LIM ∧ -(2 ^ 62) ≤ lo ∧ hi < 2 ^ 62 then some (rngL lo hi) else if hi - lo ≤ 0 ∧ -(2 ^ 62) ≤ hi ∧ lo < 2 ^ 62 then some [] else none
theorem rngL_len (lo hi : Int) : (rngL lo hi).length = (hi - lo).toNat := by unfold rngL; rw [List.length_map, List.length_range]
theorem walk_rng {K : PySem.W.Frag} {B F0 : Hp} {lo hi : Int} : WalkOf K (Itr lo (hi - lo).toNat) B F0 (rngL lo hi) := by
  refine ⟨fun i H s lt => ?_, fun i H x H' d s e y => ?_, fun i H s le => ?_⟩
  · rw [rngL_len] at lt; exact lt
  · obtain ⟨rfl, rfl⟩ := y
    refine ⟨Same.refl _, fun O t f => ?_⟩
    unfold rngL at e
    rw [List.getElem?_map] at e
    obtain ⟨k, e1, e2⟩ := Option.map_eq_some_iff.mp e
    have hk : k = i := by
      obtain ⟨h1, h2⟩ := List.getElem?_eq_some_iff.mp e1
      rw [List.getElem_range] at h2; exact h2.symm
    subst e2 hk
    exact .int _
  · rw [rngL_len] at le; exact le
theorem rngD_some {lo hi : Int} {ds : List D} (h : rngD lo hi = some ds) : ds = rngL lo hi ∧ -(2 ^ 62) ≤ lo ∧ lo < 2 ^ 62 ∧ -(2 ^ 62) ≤ hi ∧ hi < 2 ^ 62 ∧ (hi - lo).toNat ≤ LIM := by
  unfold rngD at h
  have hL : LIM = 16777216 := rfl
  split at h
  · rename_i c
    cases h
    exact ⟨rfl, by omega, by omega, by omega, by omega, by omega⟩
  · split at h
    · rename_i c
      cases h
      have : (hi - lo).toNat = 0 := by omega
      refine ⟨by unfold rngL; rw [this]; rfl, by omega, by omega, by omega, by omega, by omega⟩
    · cases h
def lRng1 (g : EF) : LF := fun ρ => (g ρ).bind fun d => (asI d).bind fun n => rngD 0 n
def lRng2 (g h : EF) : LF := fun ρ => (g ρ).bind fun a => (asI a).bind fun i => (h ρ).bind fun b => (asI b).bind fun j => rngD i j
theorem pi_rng1 {tg a : Expr} {ga : EF} {p q : Pos} (hg : Gl X "range") (hm : X.mg "range" = none) (ha : PuV X a ga) (hs : starEach [a] X.env = [(false, eval a X.env)] := by rfl) : PuI X tg (.Call (.Name "range" p) [a] [] q) (lRng1 ga) :=
  PI.conv (pi_range1 hg hm (pa_cons ha pa_nil hs) hs) fun σ H R lk ⟨O, ρ, ds, er, hg, hq⟩ => by
    obtain ⟨d, e1, hg⟩ := Option.bind_eq_some_iff.mp hg
    obtain ⟨n, e2, hg⟩ := Option.bind_eq_some_iff.mp hg
    have := asI_some e2
    subst this
    obtain ⟨rfl, h1, h2, h3, h4, h5⟩ := rngD_some hg
    refine ⟨O, ρ, _, er, e1, fun v H1 s l vw => ⟨n, by rw [vw.int], h3, h4, fun l' => hq _ _ s l' (by rw [rngL_len]; exact h5) ?_⟩⟩
    have e : n.toNat = (n - 0).toNat := by rw [Int.sub_zero]
    rw [e]
    exact walk_rng
theorem pi_rng2 {tg a b : Expr} {ga gb : EF} {p q : Pos} (hg : Gl X "range") (hm : X.mg "range" = none) (ha : PuV X a ga) (hb : PuV X b gb) (hs : starEach [a, b] X.env = [(false, eval a X.env), (false, eval b X.env)] := by rfl) (hs2 : starEach [b] X.env = [(false, eval b X.env)] := by rfl) : PuI X tg (.Call (.Name "range" p) [a, b] [] q) (lRng2 ga gb) :=
  PI.conv (pi_range2 hg hm (pa_cons ha (pa_cons hb pa_nil hs2) (by rw [hs, hs2])) hs hs2) fun σ H R lk ⟨O, ρ, ds, er, hg, hq⟩ => by
    obtain ⟨d, e1, hg⟩ := Option.bind_eq_some_iff.mp hg
    obtain ⟨i, e2, hg⟩ := Option.bind_eq_some_iff.mp hg
    obtain ⟨d', e3, hg⟩ := Option.bind_eq_some_iff.mp hg
    obtain ⟨j, e4, hg⟩ := Option.bind_eq_some_iff.mp hg
    have := asI_some e2
    subst this
    have := asI_some e4
    subst this
    obtain ⟨rfl, h1, h2, h3, h4, h5⟩ := rngD_some hg
    exact ⟨O, ρ, _, er, e1, fun v H1 s l vw => ⟨O, ρ, _, er.mono s, e3, fun v' H2 s2 l2 vw2 => ⟨i, j, by rw [vw.int, vw2.int], ⟨h1, h2, h3, h4⟩, fun l' => hq _ _ (s.trans s2) l' (by rw [rngL_len]; exact h5) walk_rng⟩⟩⟩
/-! ### for -/
def loopO (o : Out) (k : Env → Option Out) : Option Out := match o with
  | .nx ρ => k ρ
  | .ct ρ => k ρ
  | .bk ρ => some (.nx ρ)
  | .rt d => some (.rt d)
def forD (gg : GF) (S : SF) : List D → Env → Option Out
  | [], ρ => some (.nx ρ)
  | d :: ds, ρ => (gg d ρ).bind fun ρ1 => (S ρ1).bind fun o => loopO o (forD gg S ds)
def sFor (gi : LF) (gg : GF) (S : SF) : SF := fun ρ => (gi ρ).bind fun ds => forD gg S ds ρ
theorem ends_loop {K : PySem.W.Frag} {Hb F F1 : Hp} {O0 : List Addr} {Dn : Ends} {o out : Out} {k : Env → Option Out} {N : L2.St → Hp → Prop} (sF : Same F F1) (he : endsOk K Hb F O0 Dn out) (ho : loopO o k = some out)
    (hN : ∀ ρ' σ' H', k ρ' = some out → FrR K Hb F1 O0 ρ' σ' H' → N σ' H') : endsOk K Hb F1 O0 { Dn with nx := N, ct := N, bk := Dn.nx } o := by
  cases o with
  | nx ρ' => exact fun σ' H' fr' => hN ρ' σ' H' ho fr'
  | ct ρ' => exact fun σ' H' fr' => hN ρ' σ' H' ho fr'
  | bk ρ' => cases ho; exact fun σ' H' fr' => he σ' H' (fr'.less sF)
  | rt d => cases ho; exact he
theorem s_for {tg iter : Expr} {body : List Stmt} {gi : LF} {gg : GF} {is : List Nat} (hp : PassesOwn (model X.prog X.w) X.A X.env X.xe) (hc : X.calm = true) (hi : PuI X tg iter gi) (hg : PuG X tg gg is) (hb : PuSs X body S)
    (hs : ∀ x, foldedSetIterable iter X.env x = pure x := by intro _; rfl) : PuS X (.For tg iter body [] pos) (sFor gi gg S) := PS.conv (ps_for hp hc hi hg hb hs) fun Dn σ H lk ⟨Hb, F, O0, ρ, out, fr, hs, he⟩ => by
  obtain ⟨ds, e1, e2⟩ := Option.bind_eq_some_iff.mp hs
  obtain ⟨O, er, n, q⟩ := fr.env
  refine ⟨_, ρ, ds, er, e1, fun J H1 s l _ w => ?_⟩
  have sF : Same F (hid (O ++ O0) H1) := q.trans (same_hid s)
  refine ⟨fun i m σ' H' => m = ds.length - i ∧ i ≤ ds.length ∧ ∃ ρ', FrR X.K Hb (hid (O ++ O0) H1) O0 ρ' σ' H' ∧ forD gg S (ds.drop i) ρ' = some out, ⟨_, rfl, Nat.zero_le _, ρ, ⟨fr.same.trans s, fr.there0, fr.ownB, O, er.mono s, n, Same.refl _⟩, e2⟩, ?_⟩
  rintro i m σ' H' ⟨rfl, hi, ρ', fr', hf⟩
  obtain ⟨O', er', n', q'⟩ := fr'.env
  have sB : Same (hid (O ++ O0) H1) H' := q'.trans same_unhid
  by_cases hlt : i < ds.length
  · rw [List.drop_eq_getElem_cons hlt] at hf
    obtain ⟨ρ1, f1, hf⟩ := Option.bind_eq_some_iff.mp hf
    obtain ⟨o, f2, hf⟩ := Option.bind_eq_some_iff.mp hf
    refine .inr ⟨w.go i H' sB hlt, fun σ2 H2 => ∃ ρ2, FrR X.K Hb (hid (O ++ O0) H1) O0 ρ2 σ2 H2 ∧ forD gg S (ds.drop (i + 1)) ρ2 = some out, fun σ2 H2 ⟨ρ2, fr2, h2⟩ => ⟨ds.length - (i + 1), by omega, rfl, hlt, ρ2, fr2, h2⟩, fun x H2 y => ?_⟩
    obtain ⟨s2, dp⟩ := w.yld i H' x H2 _ sB (List.getElem?_eq_getElem hlt) y
    refine ⟨O' ++ O0, ρ', _, ρ1, er'.mono s2, dp _ er'.there q', f1, fun σ2 er2 k _ => ?_⟩
    exact ⟨Hb, _, O0, ρ1, o, ⟨fr'.same.trans s2, fr'.there0, fr'.ownB.kept k, O', er2, n', q'.trans (same_hid s2)⟩, f2, ends_loop sF he hf fun ρ3 σ3 H3 h3 fr3 => ⟨ρ3, fr3, h3⟩⟩
  · have ei : i = ds.length := by omega
    subst ei
    rw [List.drop_length] at hf
    cases hf
    exact .inl ⟨w.stop _ H' sB (Nat.le_refl _), he σ' H' (fr'.less sF)⟩
/-! ### while -/
def whD (t : TF) (S : SF) : Nat → Env → Option Out
  | 0, _ => none
  | n + 1, ρ => (t ρ).bind fun b => if b = true then (S ρ).bind fun o => loopO o (whD t S n) else some (.nx ρ)
theorem s_while {body : List Stmt} (fuel : Nat) (hp : PassesOwn (model X.prog X.w) X.A X.env X.xe) (hc : PuT X c t) (hb : PuSs X body S) : PuS X (.While c body [] pos) (whD t S fuel) := PS.conv (ps_while hp hc hb) fun Dn σ H lk ⟨Hb, F, O0, ρ, out, fr, hs, he⟩ => by
  refine ⟨fun m σ' H' => ∃ ρ', FrR X.K Hb F O0 ρ' σ' H' ∧ whD t S m ρ' = some out, ⟨fuel, ρ, fr, hs⟩, ?_⟩
  rintro m σ' H' ⟨ρ', fr', hf⟩
  cases m with
  | zero => cases hf
  | succ m =>
    obtain ⟨b, f1, hf⟩ := Option.bind_eq_some_iff.mp hf
    obtain ⟨O', er', n', q'⟩ := fr'.env
    refine ⟨_, ρ', b, er', f1, fun H1 s l => ?_⟩
    cases b with
    | true =>
      rw [if_pos rfl] at hf ⊢
      obtain ⟨o, f2, hf⟩ := Option.bind_eq_some_iff.mp hf
      refine ⟨fun σ2 H2 => ∃ ρ2, FrR X.K Hb F O0 ρ2 σ2 H2 ∧ whD t S m ρ2 = some out, fun σ2 H2 h2 => ⟨m, Nat.lt_succ_self _, h2⟩, ?_⟩
      exact ⟨Hb, F, O0, ρ', o, fr'.mono s, f2, ends_loop (Same.refl F) he hf fun ρ3 σ3 H3 h3 fr3 => ⟨ρ3, fr3, h3⟩⟩
    | false =>
      rw [if_neg (by decide)] at hf ⊢
      cases hf
      exact he σ' H1 (fr'.mono s)
/-! ### comprehensions -/
def wipeE : List Nat → Env → Env
  | [], ρ => ρ
  | i :: is, ρ => setS (wipeE is ρ) i .un
theorem wipe_env {K : PySem.W.Frag} {O : List Addr} {H : Hp} {ρ : Env} {σ : L2.St} (e : EnvR K O H ρ σ) : ∀ is : List Nat, EnvR K O H (wipeE is ρ) (wipe σ is)
  | [] => e
  | i :: is => (wipe_env e is).unset i
abbrev TsF := TF
theorem wipe_wipe (σ : L2.St) : ∀ vs : List Nat, wipe (wipe σ vs) vs = wipe σ vs := by
  have h : ∀ (vs ws : List Nat) (σ : L2.St), (∀ i ∈ ws, i ∈ vs) → wipe (wipe σ ws) vs = wipe σ vs := fun vs ws => by
    induction ws with
    | nil => intro σ _; rfl
    | cons w ws ih =>
      intro σ hs
      show wipe ((wipe σ ws).set w none) vs = wipe σ vs
      rw [wipe_set (hs w List.mem_cons_self), ih σ fun i m => hs i (List.mem_cons_of_mem _ m)]
  exact fun vs => h vs vs σ fun _ m => m
def tTrue : TF := fun _ => some true
abbrev PuTs (X : Cx) (ifs : List Expr) (t : TF) : Prop := PTs X ifs (tT X.K t)
theorem PTs.conv {X : Cx} {e : List Expr} {t t' : TT} (h : PTs X e t) (hc : ∀ σ H Q, LenOk X.K H → t' σ H Q → t σ H (fun v H' => LenOk X.K H' → Q v H')) : PTs X e t' := ⟨fun pins s σ H Q I q =>
  thn (h.run pins s σ H _ I (hc σ H Q (lenOk_of I) q)) fun _ _ ⟨H', I', q'⟩ => ⟨H', I', q' (lenOk_of I')⟩⟩
theorem pts_n : PuTs X [] tTrue := PTs.conv pts_nil fun σ H Q lk ⟨O, ρ, b, er, hg, hq⟩ => by
  cases hg
  exact fun l => hq H (Same.refl H) l
theorem pts_1 {c : Expr} (h : PuT X c t) : PuTs X [c] t := pts_one h
def compD (gg : GF) (t : TF) (g : EF) (ρ : Env) : List D → Option (List D)
  | [] => some []
  | d :: ds => (gg d ρ).bind fun ρ1 => (t ρ1).bind fun b => if b = true then (g ρ1).bind fun y => (compD gg t g ρ ds).map fun ys => y :: ys else compD gg t g ρ ds
def lComp (is : List Nat) (gi : LF) (gg : GF) (t : TF) (g : EF) : LF := fun ρ => (gi ρ).bind fun ds => compD gg t g (wipeE is ρ) ds
theorem dp_hide {O : List Addr} {H : Hp} {l : Addr} (h : H l = none) : Same (hid O H) (hid (l :: O) H) := fun a o z => by
  obtain ⟨n, z⟩ := hid_some z
  have : a ∉ l :: O := fun m => by
    rcases List.mem_cons.mp m with q | q
    · subst q; rw [h] at z; cases z
    · exact n q
  rw [hid_out this]; exact z
/-- the environment in the block: the new list at Dl is hidden too -/
theorem env_in {K : PySem.W.Frag} {O : List Addr} {H1 H' : Hp} {ρ : Env} {σ : L2.St} {Dl : Addr} {xs : List V} (e : EnvR K O H1 ρ σ) (s : Same H1 H') (h : H1 Dl = none) (h' : H' Dl = some (.lst xs)) : EnvR K (Dl :: O) H' ρ σ := by
  have hs : Same (hid O H1) (hid (Dl :: O) H') := (dp_hide h).trans (same_hid s)
  refine ⟨e.len, fun l m => ?_, fun i d q => ?_, fun i ds q => ?_, e.inj⟩
  · rcases List.mem_cons.mp m with z | z
    · subst z; exact ⟨xs, h'⟩
    · obtain ⟨vs, q⟩ := e.there l z
      exact ⟨vs, s _ _ q⟩
  · obtain ⟨v, a, b⟩ := e.dat i d q
    exact ⟨v, a, dp_mono hs b⟩
  · obtain ⟨l, vs, a, b, c, d⟩ := e.own i ds q
    exact ⟨l, vs, a, List.mem_cons_of_mem _ b, s _ _ c, dpAll_mono hs d⟩
theorem same_updO {H1 H' : Hp} {Dl : Addr} {o : HO} (s : Same H1 H') (h : H1 Dl = none) : Same H1 (upd H' Dl o) := fun a u z => by
  rw [upd_ne (ne_of_none z h)]
  exact s a u z
/-- what is made so far -/
def LcW (K : PySem.W.Frag) (O : List Addr) (H1 : Hp) (Dl : Addr) (i : Nat) (rest : Option (List D)) (ys : List D) (H : Hp) : Prop :=
  Same H1 H ∧ ∃ acc done r, H Dl = some (.lst acc) ∧ DqAll K (hid (Dl :: O) H) acc done ∧ done.length ≤ i ∧ rest = some r ∧ ys = done ++ r
theorem LcW.step {K : PySem.W.Frag} {O : List Addr} {H1 H : Hp} {Dl : Addr} {i : Nat} {rest : Option (List D)} {ys : List D} {y : D} {v : V} {acc : List V} (hn : H1 Dl = none) (s : Same H1 H) {done : List D} (ha : H Dl = some (.lst acc)) (hd : DqAll K (hid (Dl :: O) H) acc done)
    (hl : done.length ≤ i) (dp : Dq K (hid (Dl :: O) H) v y) {r : List D} (hr : rest = some r) (hy : ys = done ++ (y :: r)) : LcW K O H1 Dl (i + 1) rest ys (upd H Dl (.lst (acc ++ [v]))) := by
  refine ⟨same_updO s hn, acc ++ [v], done ++ [y], r, upd_same, ?_, ?_, hr, by rw [hy, List.append_assoc]; rfl⟩
  · rw [hid_upd List.mem_cons_self]
    exact dpAll_app hd (.cons dp .nil)
  · rw [List.length_append, List.length_singleton]; omega
theorem comp_run {K : PySem.W.Frag} {gi : LF} {gg : GF} {is vs : List Nat} {t : TF} {g : EF} {σ : L2.St} {H : Hp} {Q : VK} (his : ∀ i ∈ is, i ∈ vs) (h : tF K (lComp vs gi gg t g) σ H Q) : tLc (tIV K gi) (tG K gg is) (tT K t) (tP K g) vs σ H Q := by
  obtain ⟨O, ρ, ys, er, hg, hq⟩ := h
  obtain ⟨ds, e1, e2⟩ := Option.bind_eq_some_iff.mp hg
  refine ⟨O, ρ, ds, er, e1, fun J H1 s1 l1 nl w Dl hn => ?_⟩
  have er1 := er.mono s1
  have hH : H Dl = none := s1.free hn
  refine ⟨fun i m H' => m = ds.length - i ∧ i ≤ ds.length ∧ LcW K O H1 Dl i (compD gg t g (wipeE vs ρ) (ds.drop i)) ys H', ⟨_, rfl, Nat.zero_le _, same_upd hn, [], [], ys, upd_same, .nil, Nat.zero_le _, e2, rfl⟩, ?_⟩
  rintro i m H' ⟨rfl, hi, s2, acc, done, r, ha, hd, hdl, hr, hy⟩
  by_cases hlt : i < ds.length
  · rw [List.drop_eq_getElem_cons hlt] at hr
    obtain ⟨ρ1, f1, hr⟩ := Option.bind_eq_some_iff.mp hr
    obtain ⟨b, f2, hr⟩ := Option.bind_eq_some_iff.mp hr
    refine .inr ⟨w.go i H' s2 hlt, LcW K O H1 Dl (i + 1) (compD gg t g (wipeE vs ρ) (ds.drop (i + 1))) ys, fun H2 h2 => ⟨ds.length - (i + 1), by omega, rfl, hlt, h2⟩, fun x H2 y => ?_⟩
    obtain ⟨s3, dp⟩ := w.yld i H' x H2 _ s2 (List.getElem?_eq_getElem hlt) y
    have ha2 := s3 _ _ ha
    have er2 : EnvR K (Dl :: O) H2 (wipeE vs ρ) (wipe σ vs) := wipe_env (env_in er1 (s2.trans s3) hn ha2) vs
    have sx : Same (hid O H1) (hid (Dl :: O) H') := (dp_hide hn).trans (same_hid s2)
    have th : ThereO (Dl :: O) H' := fun l m => by
      rcases List.mem_cons.mp m with z | z
      · subst z; exact ⟨acc, ha⟩
      · obtain ⟨ws, q⟩ := er1.there l z
        exact ⟨ws, s2 _ _ q⟩
    refine ⟨Dl :: O, wipeE vs ρ, _, ρ1, er2, dp _ th sx, f1, fun σ2 er3 _ w2 => ⟨(w2 vs his).trans (wipe_wipe σ vs), Dl :: O, ρ1, b, er3, f2, fun H3 s4 l3 => ?_⟩⟩
    have ha3 := s4 _ _ ha2
    have hd3 := dpAll_mono (same_hid (s3.trans s4)) hd
    cases b with
    | true =>
      rw [if_pos rfl] at hr
      refine iteT ?_
      obtain ⟨y, f3, hr⟩ := Option.bind_eq_some_iff.mp hr
      obtain ⟨r', f4, f5⟩ := Option.map_eq_some_iff.mp hr
      subst f5
      refine ⟨Dl :: O, ρ1, y, er3.mono s4, f3, fun v H4 s5 l4 dpy => ⟨acc, s5 _ _ ha3, ?_, ?_⟩⟩
      · rw [dpAll_len hd, lim_eq]; omega
      · exact LcW.step hn (s2.trans (s3.trans (s4.trans s5))) (s5 _ _ ha3) (dpAll_mono (same_hid s5) hd3) hdl dpy f4 hy
    | false =>
      rw [if_neg (by decide)] at hr
      refine iteF ?_
      exact ⟨s2.trans (s3.trans s4), acc, done, r, ha3, hd3, Nat.le_succ_of_le hdl, hr, hy⟩
  · have ei : i = ds.length := by omega
    subst ei
    rw [List.drop_length] at hr
    cases hr
    rw [List.append_nil] at hy
    subst hy
    exact .inl ⟨w.stop _ H' s2 (Nat.le_refl _), hq Dl acc H' (s1.trans s2) hH ha hd⟩
theorem pf_comp {elt tg iter : Expr} {ifs : List Expr} {scope : Scope} {own : List (Str × Nat)} {gi : LF} {gg : GF} {is : List Nat} {t : TF} {g : EF} (hc : X.calm = true) (hN : X.N.Nodup) (hi : PuIV X tg iter gi) (ok : BlkOk X.N X.env.scope scope own) (his : ∀ i ∈ is, i ∈ own.map (·.2))
    (hg : ∀ (s : Shared) (H : Hp) (C : Addr) (cl : List (Str × Addr)) (fp : List Addr), PuG (X.blk s H scope (compEnvC scope cl C X.env) fp) tg gg is) (ht : ∀ (s : Shared) (H : Hp) (C : Addr) (cl : List (Str × Addr)) (fp : List Addr), PuTs (X.blk s H scope (compEnvC scope cl C X.env) fp) ifs t)
    (he : ∀ (s : Shared) (H : Hp) (C : Addr) (cl : List (Str × Addr)) (fp : List Addr), PuE (X.blk s H scope (compEnvC scope cl C X.env) fp) elt g) (hs : ∀ x, foldedSetIterable iter X.env x = pure x := by intro _; rfl) :
    PuF X (.ListComp elt [⟨tg, iter, ifs, 0⟩] scope pos) (lComp (own.map (·.2)) gi gg t g) :=
  PE.conv (pe_lc hc hN hi ok hg ht he hs) fun σ H Q lk ⟨O, ρ, ys, er, hg, hq⟩ => comp_run his ⟨O, ρ, ys, er, hg, fun l vs H' s hn hl dp _ => hq l vs H' s hn hl dp⟩
theorem s_setLc {i : Nat} {y : Str} {py : Pos} {elt tg iter : Expr} {ifs : List Expr} {scope : Scope} {own : List (Str × Nat)} {p2 : Pos} {gi : LF} {gg : GF} {is : List Nat} {t : TF} {g : EF} (hc : X.calm = true) (hN : X.N.Nodup) (hy : X.N[i]? = some y) (hyl : X.env.scope.names.lookup y = some .local)
    (hsw : swapsWith (.ListComp elt [⟨tg, iter, ifs, 0⟩] scope p2) (some (.Name y py)) pos.line X.env = pure true) (hi : PuIV X tg iter gi) (ok : BlkOk X.N X.env.scope scope own) (his : ∀ i ∈ is, i ∈ own.map (·.2))
    (hg : ∀ (s : Shared) (H : Hp) (C : Addr) (cl : List (Str × Addr)) (fp : List Addr), PuG (X.blk s H scope (compEnvC scope cl C X.env) fp) tg gg is) (ht : ∀ (s : Shared) (H : Hp) (C : Addr) (cl : List (Str × Addr)) (fp : List Addr), PuTs (X.blk s H scope (compEnvC scope cl C X.env) fp) ifs t)
    (he : ∀ (s : Shared) (H : Hp) (C : Addr) (cl : List (Str × Addr)) (fp : List Addr), PuE (X.blk s H scope (compEnvC scope cl C X.env) fp) elt g) (hs : ∀ x, foldedSetIterable iter X.env x = pure x := by intro _; rfl) :
    PS X (.Assign [.Name y py] (.ListComp elt [⟨tg, iter, ifs, 0⟩] scope p2) pos) (tAsg (tF X.K (lComp (own.map (·.2)) gi gg t g)) (gName i)) :=
  PS.conv (ps_setLc hc hN hy hyl hsw hi ok hg ht he hs) fun Dn σ H lk h => comp_run his h
end
/-! ### defs -/
def SpD (K : PySem.W.Frag) (f : List D → Option D) : Sp := fun vs H Q _ => ∃ O ds d, ThereO O H ∧ DqAll K (hid O H) vs ds ∧ f ds = some d ∧ ∀ v H', Same H H' → Dq K (hid O H') v d → Q v H'
def startE (n : Nat) (ds : List D) : Env := ds.map .dat ++ List.replicate (n - ds.length) .un
def retO : Out → Option D
  | .rt d => some d
  | .nx _ => some .none
  | _ => none
def fnD (np n : Nat) (S : SF) (ds : List D) : Option D := if ds.length = np then (S (startE n ds)).bind retO else none
theorem getS_app_dat : ∀ (ds : List D) (m i : Nat), getS (ds.map Sl.dat ++ List.replicate m .un) i = match ds[i]? with
    | some d => .dat d
    | none => .un
  | [], m, i => by
    show getS (List.replicate m Sl.un) i = _
    have : ∀ (m i : Nat), getS (List.replicate m Sl.un) i = .un := fun m => by
      induction m with
      | zero => intro i; rfl
      | succ m ih =>
        intro i
        rw [List.replicate_succ]
        cases i with
        | zero => rfl
        | succ i => exact ih i
    rw [this]
    rfl
  | d :: ds, m, 0 => rfl
  | d :: ds, m, i + 1 => by
    show getS (ds.map Sl.dat ++ List.replicate m .un) i = _
    rw [getS_app_dat ds m i]
    rfl
theorem start_env {K : PySem.W.Frag} {O : List Addr} {H : Hp} {N : List Str} {vs : List V} {ds : List D} (t : ThereO O H) (dp : DqAll K (hid O H) vs ds) : EnvR K O H (startE N.length ds) (L2.start N vs) := by
  have hl := dpAll_len dp
  have nown : ∀ i es, getS (startE N.length ds) i ≠ .own es := fun i es h => by
    unfold startE at h
    rw [getS_app_dat] at h
    split at h <;> cases h
  refine ⟨?_, t, fun i d h => ?_, fun i es h => (nown i es h).elim, fun i j es fs l h => (nown i es h).elim⟩
  · unfold L2.start startE
    rw [List.length_append, List.length_append, List.length_map, List.length_map, List.length_replicate, List.length_replicate, hl]
  · unfold startE at h
    rw [getS_app_dat] at h
    split at h
    · rename_i d' e
      cases h
      obtain ⟨v, e1, e2⟩ := dpAll_get' dp e
      refine ⟨v, ?_, e2⟩
      unfold L2.start
      have hlt : i < vs.length := (List.getElem?_eq_some_iff.mp e1).1
      rw [List.getElem?_append_left (by rw [List.length_map]; exact hlt), List.getElem?_map, e1] <;> rfl
    · cases h
theorem SpD.len {K : PySem.W.Frag} {np n : Nat} {S : SF} {vs : List V} {H : Hp} {Q : VK} {E : XK} (h : SpD K (fnD np n S) vs H Q E) : vs.length = np := by
  obtain ⟨O, ds, d, t, dp, hf, _⟩ := h
  unfold fnD at hf
  split at hf
  · rename_i e; rw [dpAll_len dp]; exact e
  · cases hf
/-- a def's body keeps its mirror -/
theorem body_run {K : PySem.W.Frag} {np : Nat} {N : List Str} {S : SF} {vs : List V} {H : Hp} {Q : VK} {E : XK} (h : SpD K (fnD np N.length S) vs H Q E) : tS K S { nx := fun _ H' => Q .non H', rt := Q } (L2.start N vs) H := by
  obtain ⟨O, ds, d, t, dp, hf, hq⟩ := h
  unfold fnD at hf
  split at hf
  · obtain ⟨o, e1, e2⟩ := Option.bind_eq_some_iff.mp hf
    have nown : OwnB H (startE N.length ds) (L2.start N vs) := fun i es l h => by
      unfold startE at h
      rw [getS_app_dat] at h
      split at h <;> cases h
    refine ⟨H, hid O H, O, _, o, ⟨Same.refl H, t, nown, ⟨[], start_env t dp, (fun l m => absurd m (by simp)), Same.refl _⟩⟩, e1, ?_⟩
    cases o with
    | rt d' => cases e2; exact hq
    | nx ρ => cases e2; exact fun σ H' fr => hq .non H' fr.same .non
    | bk ρ => cases e2
    | ct ρ => cases e2
  · cases hf
section
variable {X : Cx} {x : Str} {p pos : Pos} {e : Expr} {es : List Expr} {gs : AF} {f : Addr} {fd : FuncData} {k : Nat} {ps : List Str} {m : List D → Option D}
/-- a call of a def of the module -/
theorem pu_call (F : FnOk X.prog X.w X.K X.mg X.base CX0 k f fd ps (SpD X.K m)) (hr : Room k X.A) (hg : Gl X x) (hm : X.mg x = some (.ref f)) (hk : PySem.W.keepIn X.K (.ref f) = true) (hb : Binds X.K fd ps []) (ha : PuA X (e :: es) gs)
    (hdb : (x == ("__debug__" : Str)) = false := by decide) (he : starEach (e :: es) X.env = (false, eval e X.env) :: starEach es X.env := by rfl) (hpl : (backTo pos (starEach es X.env)).any (·.1) = false := by rfl) : PuE X (.Call (.Name x p) (e :: es) [] pos) (eCall m gs) :=
  PE.conv (pe_call F hr hg hm hk hb .nil pass0 ha hdb he hpl) fun σ H Q lk ⟨O, ρ, d, er, hg, hq⟩ => by
    obtain ⟨ds, e1, e2⟩ := Option.bind_eq_some_iff.mp hg
    refine ⟨O, ρ, ds, er, e1, fun vs H1 s1 l1 dp => ?_⟩
    show SpD X.K m (vs ++ []) H1 _ E0
    rw [List.append_nil]
    exact ⟨O, ds, d, ThereO.mono s1 er.there, dp, e2, fun v H' s2 dp' l => hq v H' (s1.trans s2) l dp'⟩
end
end PL

set_option Elab.async false
set_option linter.all false
set_option maxRecDepth 100000
set_option maxHeartbeats 2000000
/-! PL2: operators and built-ins over plain data. -/
namespace PL
open PySem L2
section
variable {X : Cx}
theorem Vw.tupD {K : PySem.W.Frag} {O : List Addr} {H : Hp} {v : V} {ds : List D} (h : Vw K O H v (.tuple ds)) : Dq K (hid O H) v (.tuple ds) := by
  cases h with | dp h => exact h
def addD : D → D → Option D
  | .int i, .int j => some (.int (i + j))
  | .str a, .str b => if a.length + b.length ≤ LIM then some (.str (a ++ b)) else none
  | .tuple a, .tuple b => if a.length + b.length ≤ LIM then some (.tuple (a ++ b)) else none
  | .list a, .list b => if a.length + b.length ≤ LIM then some (.list (a ++ b)) else none
  | _, _ => none
/-- l + m, lists that are tracked -/
theorem op_catR : OpR X (binaryOp .Add) (fun x y H Q => ∃ l b xs zs, x = .ref l ∧ y = .ref b ∧ Rd H l (.lst xs) ∧ Rd H b (.lst zs) ∧ xs.length + zs.length ≤ sizeLine ∧ ∀ p, H p = none → Q (.ref p) (upd H p (.lst (xs ++ zs)))) := by
  intro pins s σ H x y v u Q I rx ry h
  obtain ⟨l, b, xs, zs, rfl, rfl, hH, hB, hz, q⟩ := h
  cases rx
  cases ry
  obtain ⟨z, its, n, r, e⟩ := hH.ok I.hok
  obtain ⟨z2, its2, n2, r2, e2⟩ := hB.ok I.hok
  have hl := r.length
  have hl2 := r2.length
  refine PySem.P.add_list e e2 ?_ (by rw [List.size_toArray, List.size_toArray]; omega)
  have ea : its.toArray ++ its2.toArray = (its ++ its2).toArray := by simp
  rw [ea]
  exact ⟨.ref _, _, I.lnew (t' := s.toks) (r.append r2) (by rw [List.length_append]; omega), rfl, q _ I.fresh⟩
theorem o_add : OpR X (binaryOp .Add) (rD X.K addD) := by
  intro pins s σ H x y v u Q I rx ry ⟨O, da, db, d, th, lk, vx, vy, hf, hq⟩
  unfold addD at hf
  split at hf
  · cases hf; cases vx.int; cases vy.int
    exact op_add pins s σ H _ _ v u Q I rx ry ⟨_, _, rfl, rfl, hq _ H (Same.refl H) (.int _)⟩
  · split at hf
    · rename_i h
      cases hf; cases vx.str; cases vy.str
      exact op_add_str pins s σ H _ _ v u Q I rx ry ⟨_, _, rfl, rfl, by rw [lim_eq]; exact h, hq _ H (Same.refl H) (.str _)⟩
    · cases hf
  · split at hf
    · rename_i as bs h
      cases hf
      obtain ⟨a, vs, rfl, hs, ha⟩ := vx.tup
      obtain ⟨b, ws, rfl, ht, hb⟩ := vy.tup
      refine op_catA pins s σ H _ _ v u Q I rx ry ⟨a, b, vs, ws, rfl, rfl, hs, ht, by rw [dpAll_len ha, dpAll_len hb, lim_eq]; exact h, fun e => ?_, fun _ e => ?_, fun _ _ p hp => ?_⟩
      · subst e; cases ha; exact hq _ H (Same.refl H) vy.tupD
      · subst e; cases hb; rw [List.append_nil] at hq; exact hq _ H (Same.refl H) vx.tupD
      · exact hq _ _ (same_upd hp) (dp_newTup hp th (dpAll_app ha hb))
    · cases hf
  · split at hf
    · rename_i as bs h
      cases hf
      obtain ⟨a, vs, rfl, hs, ha⟩ := vx.lst
      obtain ⟨b, ws, rfl, ht, hb⟩ := vy.lst
      exact op_catR pins s σ H _ _ v u Q I rx ry ⟨a, b, vs, ws, rfl, rfl, hs, ht, by rw [dpAll_len ha, dpAll_len hb, lim_eq]; exact h, fun p hp => hq _ _ (same_upd hp) (dp_newLst hp th (dpAll_app ha hb))⟩
    · cases hf
  · cases hf
/-- two ints -/
def intD (C : Int → Int → Bool) (f : Int → Int → Int) : D → D → Option D
  | .int i, .int j => if C i j = true then some (.int (f i j)) else none
  | _, _ => none
theorem o_int {op : Operator} {C : Int → Int → Bool} {C' : Int → Int → Prop} {f : Int → Int → Int} (h : OpR X (binaryOp op) (rI C' fun i j => .int (f i j))) (hC : ∀ i j, C i j = true → C' i j) : OpR X (binaryOp op) (rD X.K (intD C f)) := by
  intro pins s σ H x y v u Q I rx ry ⟨O, da, db, d, th, lk, vx, vy, hf, hq⟩
  unfold intD at hf
  split at hf
  · split at hf
    · rename_i c
      cases hf; cases vx.int; cases vy.int
      exact h pins s σ H _ _ v u Q I rx ry ⟨_, _, rfl, rfl, hC _ _ c, hq _ H (Same.refl H) (.int _)⟩
    · cases hf
  · cases hf
def subD : D → D → Option D := intD (fun _ _ => true) fun i j => i - j
def addI : D → D → Option D := intD (fun _ _ => true) fun i j => i + j
theorem o_sub : OpR X (binaryOp .Sub) (rD X.K subD) := o_int (C' := fun _ _ => True) (fun pins s σ H x y v u Q I rx ry ⟨i, j, e1, e2, _, q⟩ => op_sub pins s σ H x y v u Q I rx ry ⟨i, j, e1, e2, q⟩) fun _ _ _ => trivial
def mulC (i j : Int) : Bool := (decide (-(2 ^ 64) < i) && decide (i < 2 ^ 64)) || (decide (-(2 ^ 64) < j) && decide (j < 2 ^ 64))
def mulD : D → D → Option D := intD mulC fun i j => i * j
theorem o_mul : OpR X (binaryOp .Mult) (rD X.K mulD) := o_int op_mul fun i j h => by
  unfold mulC at h
  simpa [CMul] using h
def fdivD : D → D → Option D := intD (fun _ j => decide (0 < j) && decide (j < 1073741824)) fun i j => i / j
theorem o_fdiv : OpR X (binaryOp .FloorDiv) (rD X.K fdivD) := o_int op_fdiv fun i j h => by simpa [CDiv] using h
def modD : D → D → Option D := intD (fun _ j => decide (0 < j)) fun i j => i % j
theorem o_mod : OpR X (binaryOp .Mod) (rD X.K modD) := o_int op_mod fun i j h => by simpa using h
def powC (i j : Int) : Bool := decide (0 ≤ j) && (decide (j ≤ 1000000) && decide (i.natAbs < 2 ^ 64))
def powD : D → D → Option D := intD powC fun i j => i ^ j.toNat
theorem o_pow : OpR X (binaryOp .Pow) (rD X.K powD) := o_int op_pow fun i j h => by simpa [powC, CPow] using h
def shlD : D → D → Option D := intD powC fun i j => i * 2 ^ j.toNat
theorem o_shl : OpR X (binaryOp .LShift) (rD X.K shlD) := o_int op_shl fun i j h => by simpa [powC, CPow] using h
/-! ### comparisons -/
def cmpI (f : Int → Int → Bool) : D → D → Option D
  | .int i, .int j => some (.bool (f i j))
  | _, _ => none
theorem o_cmpI {op : CmpOp} {f : Int → Int → Bool} (h : OpR X (compareOp op) (rI0 fun i j => .bl (f i j))) : OpR X (compareOp op) (rD X.K (cmpI f)) := by
  intro pins s σ H x y v u Q I rx ry ⟨O, da, db, d, th, lk, vx, vy, hf, hq⟩
  unfold cmpI at hf
  split at hf
  · cases hf; cases vx.int; cases vy.int
    exact h pins s σ H _ _ v u Q I rx ry ⟨_, _, rfl, rfl, hq _ H (Same.refl H) (.bl _)⟩
  · cases hf
def leD : D → D → Option D := cmpI fun i j => decide (i ≤ j)
def gtD : D → D → Option D := cmpI fun i j => decide (j < i)
def geD : D → D → Option D := cmpI fun i j => decide (j ≤ i)
theorem o_le : OpR X (compareOp .LtE) (rD X.K leD) := o_cmpI op_le
theorem o_gt : OpR X (compareOp .Gt) (rD X.K gtD) := o_cmpI op_gt
theorem o_ge : OpR X (compareOp .GtE) (rD X.K geD) := o_cmpI op_ge
def intsOf : List D → Option (List Int)
  | [] => some []
  | .int i :: ds => (intsOf ds).map fun r => i :: r
  | _ :: _ => none
theorem intsOf_some : ∀ {ds : List D} {ns : List Int}, intsOf ds = some ns → ds = ns.map PyData.int
  | [], ns, h => by cases h; rfl
  | .int i :: ds, ns, h => by
    obtain ⟨r, e1, e2⟩ := Option.map_eq_some_iff.mp (show (intsOf ds).map (fun r => i :: r) = some ns from h)
    subst e2
    rw [intsOf_some e1]; rfl
  | .none :: _, _, h => by cases h
  | .bool _ :: _, _, h => by cases h
  | .str _ :: _, _, h => by cases h
  | .list _ :: _, _, h => by cases h
  | .tuple _ :: _, _, h => by cases h
  | .dict _ :: _, _, h => by cases h
@[simp] theorem intsOf_map (ns : List Int) : intsOf (ns.map PyData.int) = some ns := by
  induction ns with
  | nil => rfl
  | cons n ns ih => rw [List.map_cons, intsOf, ih] <;> rfl
def ltD : D → D → Option D
  | .int i, .int j => some (.bool (decide (i < j)))
  | .tuple a, .tuple b => (intsOf a).bind fun ns => (intsOf b).map fun ms => .bool (HT.lexLt ns ms)
  | _, _ => none
theorem o_lt (hu : X.A.units < cLine) : OpR X (compareOp .Lt) (rD X.K ltD) := by
  intro pins s σ H x y v u Q I rx ry ⟨O, da, db, d, th, lk, vx, vy, hf, hq⟩
  unfold ltD at hf
  split at hf
  · cases hf; cases vx.int; cases vy.int
    exact op_lt pins s σ H _ _ v u Q I rx ry ⟨_, _, rfl, rfl, hq _ H (Same.refl H) (.bl _)⟩
  · obtain ⟨ns, e1, hf⟩ := Option.bind_eq_some_iff.mp hf
    obtain ⟨ms, e2, e3⟩ := Option.map_eq_some_iff.mp hf
    subst e3
    rw [intsOf_some e1] at vx
    rw [intsOf_some e2] at vy
    obtain ⟨a, vs, rfl, hs, ha⟩ := vx.tup
    obtain ⟨b, ws, rfl, ht, hb⟩ := vy.tup
    rw [dpAll_ints ha] at hs
    rw [dpAll_ints hb] at ht
    exact op_ltT hu pins s σ H _ _ v u Q I rx ry ⟨a, b, ns, ms, rfl, rfl, hs, ht, hq _ H (Same.refl H) (.bl _)⟩
  · cases hf
def okD (d : D) : Bool := SeqAt.shaped d
def eqD (a b : D) : Option D := if okD a = true ∧ okD b = true then some (.bool (PyData.eqv a b)) else none
def neD (a b : D) : Option D := if okD a = true ∧ okD b = true then some (.bool (!PyData.eqv a b)) else none
theorem o_eq (hu : X.A.units + 64 < cLine) : OpR X (compareOp .Eq) (rD X.K eqD) := by
  intro pins s σ H x y v u Q I rx ry ⟨O, da, db, d, th, lk, vx, vy, hf, hq⟩
  unfold eqD at hf
  split at hf
  · rename_i c
    cases hf
    exact op_eqD hu pins s σ H _ _ v u Q I rx ry ⟨da, db, vx.full.dp, vy.full.dp, c.1, c.2, hq _ H (Same.refl H) (.bl _)⟩
  · cases hf
theorem o_ne (hu : X.A.units + 64 < cLine) : OpR X (compareOp .NotEq) (rD X.K neD) := by
  intro pins s σ H x y v u Q I rx ry ⟨O, da, db, d, th, lk, vx, vy, hf, hq⟩
  unfold neD at hf
  split at hf
  · rename_i c
    cases hf
    exact op_neD hu pins s σ H _ _ v u Q I rx ry ⟨da, db, vx.full.dp, vy.full.dp, c.1, c.2, hq _ H (Same.refl H) (.bl _)⟩
  · cases hf
def memD (x : D) : D → Option Bool
  | .list ys => if okD x = true ∧ okD (.list ys) = true then some (ys.any fun z => PyData.eqv z x) else none
  | .tuple ys => if okD x = true ∧ okD (.tuple ys) = true then some (ys.any fun z => PyData.eqv z x) else none
  | .str z => match x with
    | .str y => some (!(Builtin.Str.occurrences z y 0 z.length 1).isEmpty)
    | _ => none
  | _ => none
def inD (x c : D) : Option D := (memD x c).map .bool
def notInD (x c : D) : Option D := (memD x c).map fun b => .bool (!b)
theorem room_in_tup {A : Around} {ds : List PyData} {d : PyData} (h : SeqAt.shaped d = true) (hu : A.units + 65 < cLine) : A.units + 1 + min (PyData.depthAll ds) d.depth < cLine := by
  have := SeqAt.depth_of_shaped h
  have h2 : min (PyData.depthAll ds) d.depth ≤ d.depth := Nat.min_le_right _ _
  omega
theorem o_in (hu : X.A.units + 65 < cLine) : OpR X (compareOp .In) (rD X.K inD) := by
  intro pins s σ H x y v u Q I rx ry ⟨O, da, db, d, th, lk, vx, vy, hf, hq⟩
  unfold inD memD at hf
  obtain ⟨b, hm, e⟩ := Option.map_eq_some_iff.mp hf
  subst e
  clear hf
  split at hm
  · split at hm
    · rename_i c
      cases hm
      exact op_inD hu pins s σ H _ _ v u Q I rx ry ⟨da, _, vx.full.dp, vy.full.dp, c.1, c.2, hq _ H (Same.refl H) (.bl _)⟩
    · cases hm
  · split at hm
    · rename_i c
      obtain rfl := Option.some.inj hm
      obtain ⟨as, r1⟩ := Dp.reads I da x v vx.full.dp rx
      obtain ⟨bs, r2⟩ := Dp.reads I (.tuple _) y u vy.full.dp ry
      exact SeqAt.in_tuple_reads r2 r1 (SeqAt.canLay_of_shaped c.2) (SeqAt.canLay_of_shaped c.1) (room_in_tup c.1 hu) ⟨.bl _, H, I, rfl, hq _ H (Same.refl H) (.bl _)⟩
    · cases hm
  · split at hm
    · cases hm
      cases vx.str; cases vy.str
      exact op_in_str pins s σ H _ _ v u Q I rx ry ⟨_, _, rfl, rfl, hq _ H (Same.refl H) (.bl _)⟩
    · cases hm
  · cases hm
theorem o_notIn (hu : X.A.units + 65 < cLine) : OpR X (compareOp .NotIn) (rD X.K notInD) := by
  intro pins s σ H x y v u Q I rx ry ⟨O, da, db, d, th, lk, vx, vy, hf, hq⟩
  unfold notInD memD at hf
  obtain ⟨b, hm, e⟩ := Option.map_eq_some_iff.mp hf
  subst e
  clear hf
  split at hm
  · split at hm
    · rename_i c
      obtain rfl := Option.some.inj hm
      exact op_notInD hu pins s σ H _ _ v u Q I rx ry ⟨da, _, vx.full.dp, vy.full.dp, c.1, c.2, hq _ H (Same.refl H) (.bl _)⟩
    · cases hm
  · split at hm
    · rename_i c
      obtain rfl := Option.some.inj hm
      obtain ⟨as, r1⟩ := Dp.reads I da x v vx.full.dp rx
      obtain ⟨bs, r2⟩ := Dp.reads I (.tuple _) y u vy.full.dp ry
      exact SeqAt.notIn_tuple_reads r2 r1 (SeqAt.canLay_of_shaped c.2) (SeqAt.canLay_of_shaped c.1) (room_in_tup c.1 hu) ⟨.bl _, H, I, rfl, hq _ H (Same.refl H) (.bl _)⟩
    · cases hm
  · split at hm
    · obtain rfl := Option.some.inj hm
      cases vx.str; cases vy.str
      exact op_notin_str pins s σ H _ _ v u Q I rx ry ⟨_, _, rfl, rfl, hq _ H (Same.refl H) (.bl _)⟩
    · cases hm
  · cases hm
/-- is None, is True, is False (the right one written) -/
def isNoneD : D → Bool
  | .none => true
  | _ => false
def isD : D → D → Option D
  | a, .none => some (.bool (isNoneD a))
  | .bool a, .bool b => some (.bool (decide (a = b)))
  | _, _ => none
def isNotD : D → D → Option D
  | a, .none => some (.bool (!isNoneD a))
  | .bool a, .bool b => some (.bool (!decide (a = b)))
  | _, _ => none
theorem none_iff {K : PySem.W.Frag} {O : List Addr} {H : Hp} {v : V} {d : D} (h : Vw K O H v d) : decide (v = .non) = isNoneD d := by
  cases h with
  | dp h => cases h <;> rfl
  | own _ _ _ => rfl
theorem o_is : OpR X (compareOp .Is) (rD X.K isD) := by
  intro pins s σ H x y v u Q I rx ry ⟨O, da, db, d, th, lk, vx, vy, hf, hq⟩
  unfold isD at hf
  split at hf
  · cases hf; cases vy.non
    refine op_isN pins s σ H _ _ v u Q I rx ry ⟨rfl, ?_⟩
    rw [none_iff vx]
    exact hq _ H (Same.refl H) (.bl _)
  · cases hf; cases vx.bl; cases vy.bl
    exact op_isBl pins s σ H _ _ v u Q I rx ry ⟨_, _, rfl, rfl, hq _ H (Same.refl H) (.bl _)⟩
  · cases hf
theorem o_isNot : OpR X (compareOp .IsNot) (rD X.K isNotD) := by
  intro pins s σ H x y v u Q I rx ry ⟨O, da, db, d, th, lk, vx, vy, hf, hq⟩
  unfold isNotD at hf
  split at hf
  · cases hf; cases vy.non
    refine op_notN pins s σ H _ _ v u Q I rx ry ⟨rfl, ?_⟩
    rw [none_iff vx]
    exact hq _ H (Same.refl H) (.bl _)
  · cases hf; cases vx.bl; cases vy.bl
    exact op_notBl pins s σ H _ _ v u Q I rx ry ⟨_, _, rfl, rfl, hq _ H (Same.refl H) (.bl _)⟩
  · cases hf
/-! ### one operand -/
def negD : D → Option D
  | .int i => some (.int (-i))
  | _ => none
theorem o_neg : UnR X (unaryOp .USub) (rU1 X.K negD) := by
  intro pins s σ H x v Q I rx ⟨O, da, d, th, lk, vx, hf, hq⟩
  unfold negD at hf
  split at hf
  · cases hf; cases vx.int
    exact un_neg pins s σ H _ v Q I rx ⟨_, rfl, hq _ H (Same.refl H) (.int _)⟩
  · cases hf
/-! ### subscripts, slices -/
theorem atI_dp {K : PySem.W.Frag} {F : Hp} {vs : List V} {ds : List D} {i : Int} {d : D} (h : DqAll K F vs ds) (e : atI ds i = some d) : ∃ v, atI vs i = some v ∧ Dq K F v d := by
  unfold atI at e ⊢
  rw [dpAll_len h]
  obtain ⟨j, e1, e2⟩ := Option.bind_eq_some_iff.mp e
  obtain ⟨v, e3, e4⟩ := dpAll_get' h e2
  exact ⟨v, by rw [e1]; exact e3, e4⟩
def ixD : D → D → Option D
  | .list ds, .int i => atI ds i
  | .tuple ds, .int i => atI ds i
  | .str z, .int i => if z.length ≤ LIM then (atI z.cps.toList i).map fun c => .str ⟨#[c]⟩ else none
  | _, _ => none
theorem o_ix : IxR X (rD X.K ixD) := by
  intro value slice pins s σ H x y v u Q I rx ry ⟨O, da, db, d, th, lk, vx, vy, hf, hq⟩ hsub
  unfold ixD at hf
  split at hf
  · cases vy.int
    obtain ⟨a, vs, rfl, hs, ha⟩ := vx.lst
    obtain ⟨w', e1, e2⟩ := atI_dp ha hf
    exact ix_list value slice pins s σ H _ _ v u Q I rx ry ⟨a, vs, _, w', rfl, rfl, .inl hs, e1, hq _ H (Same.refl H) e2⟩ hsub
  · cases vy.int
    obtain ⟨a, vs, rfl, hs, ha⟩ := vx.tup
    obtain ⟨w', e1, e2⟩ := atI_dp ha hf
    exact ix_tup value slice pins s σ H _ _ v u Q I rx ry ⟨a, vs, _, w', rfl, rfl, hs, e1, hq _ H (Same.refl H) e2⟩ hsub
  · cases vy.int
    cases vx.str
    split at hf
    · rename_i h
      obtain ⟨c, e1, e2⟩ := Option.map_eq_some_iff.mp hf
      subst e2
      exact ix_str value slice pins s σ H _ _ v u Q I rx ry ⟨_, _, c, rfl, rfl, by rw [lim_eq]; exact h, e1, hq _ H (Same.refl H) (.str _)⟩ hsub
    · cases hf
  · cases hf
def cutD (xs : List D) (lo hi : Option Int) : List D := (xs.drop (HT.sIx xs.length 0 lo)).take (HT.sIx xs.length xs.length hi - HT.sIx xs.length 0 lo)
theorem cut_dp {K : PySem.W.Frag} {F : Hp} {vs : List V} {ds : List D} (lo hi : Option Int) (h : DqAll K F vs ds) : DqAll K F (cutV vs lo hi) (cutD ds lo hi) := by
  unfold cutV cutD
  rw [dpAll_len h]
  exact dpAll_take _ (dpAll_drop _ h)
def slD (x : D) (lo hi : Option Int) : Option D := match x with
  | .list ds => some (.list (cutD ds lo hi))
  | .tuple ds => some (.tuple (cutD ds lo hi))
  | .str z => if z.length ≤ LIM then some (.str (cutS z lo hi)) else none
  | _ => none
theorem sl_listR : SlR X (fun x lo hi H Q => ∃ a xs, x = .ref a ∧ SqL X.K H a xs ∧ ∀ p, H p = none → Q (.ref p) (upd H p (.lst (cutV xs lo hi)))) := sl_list
theorem o_sl : SlR X (rSlD X.K slD) := by
  intro pins s σ H x v vl vu lo hi sl Q I rx hs pl pu ⟨O, da, d, th, lk, vx, hf, hq⟩
  unfold slD at hf
  split at hf
  · cases hf
    obtain ⟨a, vs, rfl, hs', ha⟩ := vx.lst
    exact sl_list pins s σ H _ v vl vu lo hi sl Q I rx hs pl pu ⟨a, vs, rfl, .inl hs', fun p hp => hq _ _ (same_upd hp) (dp_newLst hp th (cut_dp lo hi ha))⟩
  · cases hf
    obtain ⟨a, vs, rfl, hs', ha⟩ := vx.tup
    refine sl_tupA pins s σ H _ v vl vu lo hi sl Q I rx hs pl pu ⟨a, vs, rfl, hs', fun hw => ?_, fun _ p hp => hq _ _ (same_upd hp) (dp_newTup hp th (cut_dp lo hi ha))⟩
    refine hq _ H (Same.refl H) ?_
    unfold cutD
    rw [← dpAll_len ha, hw.1, hw.2, List.drop_zero, Nat.sub_zero, dpAll_len ha, List.take_length]
    exact vx.tupD
  · split at hf
    · rename_i h
      cases hf; cases vx.str
      exact sl_str pins s σ H _ v vl vu lo hi sl Q I rx hs pl pu ⟨_, rfl, by rw [lim_eq]; exact h, hq _ H (Same.refl H) (.str _)⟩
    · cases hf
  · cases hf
/-! ### built-ins -/
def f1 (f : D → Option D) : List D → Option D
  | [d] => f d
  | _ => none
def f2 (f : D → D → Option D) : List D → Option D
  | [d, e] => f d e
  | _ => none
theorem vw1 {K : PySem.W.Frag} {O : List Addr} {H : Hp} {vs : List V} {f : D → Option D} {ds : List D} {d : D} (h : VwAll K O H vs ds) (hf : f1 f ds = some d) : ∃ v e, vs = [v] ∧ Vw K O H v e ∧ f e = some d := by
  cases h with
  | nil => cases hf
  | cons a b => cases b with
    | nil => exact ⟨_, _, rfl, a, hf⟩
    | cons a' b => cases hf
theorem vw2 {K : PySem.W.Frag} {O : List Addr} {H : Hp} {vs : List V} {f : D → D → Option D} {ds : List D} {d : D} (h : VwAll K O H vs ds) (hf : f2 f ds = some d) : ∃ v w e e', vs = [v, w] ∧ Vw K O H v e ∧ Vw K O H w e' ∧ f e e' = some d := by
  cases h with
  | nil => cases hf
  | cons a b => cases b with
    | nil => cases hf
    | cons a' b => cases b with
      | nil => exact ⟨_, _, _, _, rfl, a, a', hf⟩
      | cons a'' b => cases hf
def lenD : D → Option D
  | .list ds => some (.int ds.length)
  | .tuple ds => some (.int ds.length)
  | .str z => if z.length ≤ LIM then some (.int z.length) else none
  | _ => none
theorem b_len : CallR X (.builtin "len") (rC X.K (f1 lenD)) := by
  intro pins s σ H xs us Q I r ⟨O, ds, d, th, lk, vw, hf, hq⟩
  obtain ⟨v, e, rfl, vx, hf⟩ := vw1 vw hf
  refine call_len pins s σ H _ us Q I r ?_
  unfold lenD at hf
  split at hf
  · cases hf
    obtain ⟨a, vs, rfl, hs, ha⟩ := vx.lst
    exact ⟨_, _, rfl, .inl ⟨vs, .inl hs, rfl⟩, by rw [dpAll_len ha]; exact hq _ H (Same.refl H) (.int _)⟩
  · cases hf
    obtain ⟨a, vs, rfl, hs, ha⟩ := vx.tup
    exact ⟨_, _, rfl, .inr ⟨vs, hs, rfl⟩, by rw [dpAll_len ha]; exact hq _ H (Same.refl H) (.int _)⟩
  · split at hf
    · rename_i h
      cases hf; cases vx.str
      exact ⟨_, _, rfl, ⟨by rw [lim_eq]; exact h, rfl⟩, hq _ H (Same.refl H) (.int _)⟩
    · cases hf
  · cases hf
def tupD : D → Option D
  | .list ds => some (.tuple ds)
  | .tuple ds => some (.tuple ds)
  | _ => none
theorem b_tuple : CallR X (.type "tuple") (rC X.K (f1 tupD)) := by
  intro pins s σ H xs us Q I r ⟨O, ds, d, th, lk, vw, hf, hq⟩
  obtain ⟨v, e, rfl, vx, hf⟩ := vw1 vw hf
  refine call_tuple_of pins s σ H _ us Q I r ?_
  unfold tupD at hf
  split at hf
  · cases hf
    obtain ⟨a, vs, rfl, hs, ha⟩ := vx.lst
    exact ⟨a, vs, rfl, .inl ⟨.inl hs, fun l hl => hq _ _ (same_upd hl) (dp_newTup hl th ha)⟩⟩
  · cases hf
    obtain ⟨a, vs, rfl, hs, ha⟩ := vx.tup
    exact ⟨a, vs, rfl, .inr ⟨hs, hq _ H (Same.refl H) vx.tupD⟩⟩
  · cases hf
def lstD : D → Option D
  | .list ds => some (.list ds)
  | .tuple ds => some (.list ds)
  | _ => none
theorem b_list : CallR X (.type "list") (rC X.K (f1 lstD)) := by
  intro pins s σ H xs us Q I r ⟨O, ds, d, th, lk, vw, hf, hq⟩
  obtain ⟨v, e, rfl, vx, hf⟩ := vw1 vw hf
  refine call_list_of pins s σ H _ us Q I r ?_
  unfold lstD at hf
  split at hf
  · cases hf
    obtain ⟨a, vs, rfl, hs, ha⟩ := vx.lst
    exact ⟨a, vs, rfl, .inl (.inl hs), fun l hl => hq _ _ (same_upd hl) (dp_newLst hl th ha)⟩
  · cases hf
    obtain ⟨a, vs, rfl, hs, ha⟩ := vx.tup
    exact ⟨a, vs, rfl, .inr hs, fun l hl => hq _ _ (same_upd hl) (dp_newLst hl th ha)⟩
  · cases hf
def intD1 : D → Option D
  | .int i => some (.int i)
  | .bool b => some (.int (if b then 1 else 0))
  | _ => none
theorem b_int : CallR X (.type "int") (rC X.K (f1 intD1)) := by
  intro pins s σ H xs us Q I r ⟨O, ds, d, th, lk, vw, hf, hq⟩
  obtain ⟨v, e, rfl, vx, hf⟩ := vw1 vw hf
  refine call_int1 pins s σ H _ us Q I r ?_
  unfold intD1 at hf
  split at hf
  · cases hf; cases vx.int
    exact .inl ⟨_, rfl, hq _ H (Same.refl H) (.int _)⟩
  · cases hf; cases vx.bl
    exact .inr ⟨_, rfl, hq _ H (Same.refl H) (.int _)⟩
  · cases hf
def boolsOf : List D → Option (List Bool)
  | [] => some []
  | .bool i :: ds => (boolsOf ds).map fun r => i :: r
  | _ :: _ => none
theorem boolsOf_some : ∀ {ds : List D} {ns : List Bool}, boolsOf ds = some ns → ds = ns.map PyData.bool
  | [], ns, h => by cases h; rfl
  | .bool i :: ds, ns, h => by
    obtain ⟨r, e1, e2⟩ := Option.map_eq_some_iff.mp (show (boolsOf ds).map (fun r => i :: r) = some ns from h)
    subst e2
    rw [boolsOf_some e1]; rfl
  | .none :: _, _, h => by cases h
  | .int _ :: _, _, h => by cases h
  | .str _ :: _, _, h => by cases h
  | .list _ :: _, _, h => by cases h
  | .tuple _ :: _, _, h => by cases h
  | .dict _ :: _, _, h => by cases h
@[simp] theorem boolsOf_map (ns : List Bool) : boolsOf (ns.map PyData.bool) = some ns := by
  induction ns with
  | nil => rfl
  | cons n ns ih => rw [List.map_cons, boolsOf, ih] <;> rfl
def allD : D → Option D
  | .list ds => (boolsOf ds).map fun bs => .bool (bs.all id)
  | _ => none
def anyD : D → Option D
  | .list ds => (boolsOf ds).map fun bs => .bool (bs.any id)
  | _ => none
theorem b_all (hc : X.calm = true) : CallR X (.builtin "all") (rC X.K (f1 allD)) := by
  intro pins s σ H xs us Q I r ⟨O, ds, d, th, lk, vw, hf, hq⟩
  obtain ⟨v, e, rfl, vx, hf⟩ := vw1 vw hf
  refine cr_all hc pins s σ H _ us Q I r ?_
  unfold allD at hf
  split at hf
  · obtain ⟨bs, e1, e2⟩ := Option.map_eq_some_iff.mp hf
    subst e2
    rw [boolsOf_some e1] at vx
    obtain ⟨a, vs, rfl, hs, ha⟩ := vx.lst
    rw [dpAll_bools ha] at hs
    exact ⟨a, bs, rfl, .inl hs, hq _ H (Same.refl H) (.bl _)⟩
  · cases hf
theorem b_any (hc : X.calm = true) : CallR X (.builtin "any") (rC X.K (f1 anyD)) := by
  intro pins s σ H xs us Q I r ⟨O, ds, d, th, lk, vw, hf, hq⟩
  obtain ⟨v, e, rfl, vx, hf⟩ := vw1 vw hf
  refine cr_any hc pins s σ H _ us Q I r ?_
  unfold anyD at hf
  split at hf
  · obtain ⟨bs, e1, e2⟩ := Option.map_eq_some_iff.mp hf
    subst e2
    rw [boolsOf_some e1] at vx
    obtain ⟨a, vs, rfl, hs, ha⟩ := vx.lst
    rw [dpAll_bools ha] at hs
    exact ⟨a, bs, rfl, .inl hs, hq _ H (Same.refl H) (.bl _)⟩
  · cases hf
def max2D : D → D → Option D
  | .int i, .int j => some (.int (if j > i then j else i))
  | _, _ => none
def min2D : D → D → Option D
  | .int i, .int j => some (.int (if j < i then j else i))
  | _, _ => none
theorem b_max2 (hc : X.calm = true) : CallR X (.builtin "max") (rC X.K (f2 max2D)) := by
  intro pins s σ H xs us Q I r ⟨O, ds, d, th, lk, vw, hf, hq⟩
  obtain ⟨v, w', e, e', rfl, vx, vy, hf⟩ := vw2 vw hf
  refine call_max2 hc pins s σ H _ us Q I r ?_
  unfold max2D at hf
  split at hf
  · cases hf; cases vx.int; cases vy.int
    exact ⟨_, _, rfl, hq _ H (Same.refl H) (.int _)⟩
  · cases hf
theorem b_min2 (hc : X.calm = true) : CallR X (.builtin "min") (rC X.K (f2 min2D)) := by
  intro pins s σ H xs us Q I r ⟨O, ds, d, th, lk, vw, hf, hq⟩
  obtain ⟨v, w', e, e', rfl, vx, vy, hf⟩ := vw2 vw hf
  refine call_min2 hc pins s σ H _ us Q I r ?_
  unfold min2D at hf
  split at hf
  · cases hf; cases vx.int; cases vy.int
    exact ⟨_, _, rfl, hq _ H (Same.refl H) (.int _)⟩
  · cases hf
end
end PL

set_option Elab.async false
set_option linter.all false
set_option maxRecDepth 100000
set_option maxHeartbeats 2000000
/-! PL3b: more rules: new lists, extend, stores, augmented stores, parallel stores, two-clause comprehensions, isinstance, lists of ranges. -/
namespace PL
open PySem L2
section
variable {X : Cx} {e : Expr} {g : EF} {pos : Pos} {es : List Expr} {gs : AF}
def lLst (g : AF) : LF := fun ρ => (g ρ).bind fun ds => if ds.length ≤ LIM then some ds else none
theorem dq_hide {K : PySem.W.Frag} {O : List Addr} {H : Hp} {l : Addr} {vs : List V} {ds : List D} {o : HO} (h : H l = none) (dp : DqAll K (hid O H) vs ds) : DqAll K (hid (l :: O) (upd H l o)) vs ds := by
  rw [hid_upd List.mem_cons_self]
  exact dpAll_mono (dp_hide h) dp
theorem pf_lst (h : PuA X es gs) : PuF X (.List es pos) (lLst gs) := PE.conv (pe_lst h) fun σ H Q lk ⟨O, ρ, d, er, hg, hq⟩ => by
  obtain ⟨ds, e1, hg⟩ := Option.bind_eq_some_iff.mp hg
  split at hg
  · rename_i hl
    cases hg
    exact ⟨O, ρ, _, er, e1, fun vs H' s l dp => ⟨by rw [dpAll_len dp, lim_eq]; exact hl, fun p hp _ => hq p vs _ (s.trans (same_upd hp)) (s.free hp) upd_same (dq_hide hp dp)⟩⟩
  · cases hg
/-- list(x) of a list or tuple -/
def lOf (g : EF) : LF := fun ρ => (g ρ).bind fun d => match d with
  | .list ds => some ds
  | .tuple ds => some ds
  | _ => none
theorem pf_list {p : Pos} (hg : Gl X "list") (hm : X.mg "list" = none) (hv : bootBuiltins "list" = some (.type "list")) (ha : PuV X e g)
    (he : starEach [e] X.env = (false, eval e X.env) :: starEach [] X.env := by rfl) (hpl : (backTo pos (starEach [] X.env)).any (·.1) = false := by rfl) : PuF X (.Call (.Name "list" p) [e] [] pos) (lOf g) :=
  PE.conv (pe_callTy call_list_of hg hm hv (pa_cons ha pa_nil he) (by decide) (by decide) he hpl) fun σ H Q lk ⟨O, ρ, d, er, hg, hq⟩ => by
    obtain ⟨d, e1, hg⟩ := Option.bind_eq_some_iff.mp hg
    refine ⟨O, ρ, d, er, e1, fun v H' s l vw => ?_⟩
    split at hg
    · cases hg
      obtain ⟨a, vs, rfl, hs, ha⟩ := vw.lst
      exact ⟨a, vs, rfl, .inl (.inl hs), fun p hp _ => hq p vs _ (s.trans (same_upd hp)) (s.free hp) upd_same (dq_hide hp ha)⟩
    · cases hg
      obtain ⟨a, vs, rfl, hs, ha⟩ := vw.tup
      exact ⟨a, vs, rfl, .inr hs, fun p hp _ => hq p vs _ (s.trans (same_upd hp)) (s.free hp) upd_same (dq_hide hp ha)⟩
    · cases hg
/-- list(range(..)), tuple(range(..)) -/
theorem dp_rng {K : PySem.W.Frag} {F : Hp} (a b : Int) : DqAll K F (rgV a b) (rngL a b) := by
  have h : rgV a b = ((List.range (b - a).toNat).map fun i => a + (i : Nat)).map V.int := by unfold rgV; rw [List.map_map] <;> rfl
  have h2 : rngL a b = ((List.range (b - a).toNat).map fun i => a + (i : Nat)).map PyData.int := by unfold rngL; rw [List.map_map] <;> rfl
  rw [h, h2]
  exact dpAll_of_ints _
theorem rgOk {lo hi : Int} {ds : List D} (h : rngD lo hi = some ds) : ds = rngL lo hi ∧ RgOk lo hi := by
  obtain ⟨e, h1, h2, h3, h4, h5⟩ := rngD_some h
  exact ⟨e, h1, h2, h3, h4, h5⟩
theorem pf_listRg1 {a : Expr} {ga : EF} {p q : Pos} (hc : X.calm = true) (hg : Gl X "list") (hm : X.mg "list" = none) (hg2 : Gl X "range") (hm2 : X.mg "range" = none) (ha : PuV X a ga) (na : starEach [a] X.env = (false, eval a X.env) :: starEach [] X.env := by rfl)
    (nb : starEach [.Call (.Name "range" q) [a] [] q] X.env = (false, eval (.Call (.Name "range" q) [a] [] q) X.env) :: starEach [] X.env := by rfl) {q2 : Pos}
    (nc : starEach [.Call (.Name "range" q2) [a] [] q] X.env = (false, eval (.Call (.Name "range" q2) [a] [] q) X.env) :: starEach [] X.env := by rfl) : PuF X (.Call (.Name "list" p) [.Call (.Name "range" q2) [a] [] q] [] pos) (lRng1 ga) :=
  PE.conv (pe_listRg hc hg hm (prg_1 hg2 hm2 ha na) nc) fun σ H Q lk ⟨O, ρ, ds, er, hg, hq⟩ => by
    obtain ⟨d, e1, hg⟩ := Option.bind_eq_some_iff.mp hg
    obtain ⟨n, e2, hg⟩ := Option.bind_eq_some_iff.mp hg
    have := asI_some e2
    subst this
    obtain ⟨rfl, h1⟩ := rgOk hg
    exact ⟨O, ρ, _, er, e1, fun v H1 s l vw => ⟨n, vw.int, h1, fun p hp _ => hq p _ _ (s.trans (same_upd hp)) (s.free hp) upd_same (dq_hide hp (dp_rng 0 n))⟩⟩
def eTupRng (g : LF) : EF := fun ρ => (g ρ).map .tuple
theorem pu_tupRg1 {a : Expr} {ga : EF} {p q q2 : Pos} (hc : X.calm = true) (hg : Gl X "tuple") (hm : X.mg "tuple" = none) (hg2 : Gl X "range") (hm2 : X.mg "range" = none) (ha : PuV X a ga) (na : starEach [a] X.env = (false, eval a X.env) :: starEach [] X.env := by rfl)
    (nc : starEach [.Call (.Name "range" q2) [a] [] q] X.env = (false, eval (.Call (.Name "range" q2) [a] [] q) X.env) :: starEach [] X.env := by rfl) : PuE X (.Call (.Name "tuple" p) [.Call (.Name "range" q2) [a] [] q] [] pos) (eTupRng (lRng1 ga)) :=
  PE.conv (pe_tupRg hc hg hm (prg_1 hg2 hm2 ha na) nc) fun σ H Q lk ⟨O, ρ, ds, er, hg, hq⟩ => by
    obtain ⟨dd, hg0, rfl⟩ := Option.map_eq_some_iff.mp hg
    obtain ⟨d, e1, hg⟩ := Option.bind_eq_some_iff.mp hg0
    obtain ⟨n, e2, hg⟩ := Option.bind_eq_some_iff.mp hg
    have := asI_some e2
    subst this
    obtain ⟨rfl, h1⟩ := rgOk hg
    exact ⟨O, ρ, _, er, e1, fun v H1 s l vw => ⟨n, vw.int, h1, fun p hp l' => hq _ _ (s.trans (same_upd hp)) l' (dp_newTup hp (ThereO.mono s er.there) (dp_rng 0 n))⟩⟩
/-! ### stores -/
theorem setF_run {K : PySem.W.Frag} {i : Nat} {g : LF} {Dn : Ends} {σ : L2.St} {H : Hp} (h : tS K (sSet i (eL g)) Dn σ H) : tAsg (tF K g) (gName i) Dn σ H := by
  obtain ⟨Hb, F, O0, ρ, out, fr, hs, he⟩ := h
  obtain ⟨d, e1, e2⟩ := Option.map_eq_some_iff.mp hs
  subst e2
  obtain ⟨ds, e3, e4⟩ := Option.map_eq_some_iff.mp e1
  subst e4
  obtain ⟨O, er, n, q⟩ := fr.env
  refine ⟨_, ρ, ds, er, e3, fun l vs H' s hn hl dp => he _ H' ⟨fr.same.trans s, fr.there0, fr.ownB.kept (ownK_dat ρ σ i _ _), O, (er.mono s).setD i ?_, n, q.trans (same_hid s)⟩⟩
  exact .lst (.inl (by rw [hid_out (er.fresh hn)]; exact hl)) (dpAll_mono (same_less fun a m => List.mem_cons_of_mem _ m) dp)
theorem s_setF {i : Nat} {tg : Expr} {g : LF} (h : PS X (.Assign [tg] e pos) (tAsg (tF X.K g) (gName i))) : PuS X (.Assign [tg] e pos) (sSet i (eL g)) := PS.conv h fun Dn σ H lk h => setF_run h
/-- x op= e -/
theorem ip_addD : PIp X .Add (rD X.K addI) := by
  intro pins s σ H x y v u Q I rx ry ⟨O, da, db, d, th, lk, vx, vy, hf, hq⟩
  unfold addI intD at hf
  split at hf
  · cases hf; cases vx.int; cases vy.int
    exact ip_add pins s σ H _ _ v u Q I rx ry ⟨_, _, rfl, rfl, hq _ H (Same.refl H) (.int _)⟩
  · cases hf
theorem s_aug {i : Nat} {x : Str} {op : Operator} {f : D → D → Option D} {p : Pos} (hN : X.N.Nodup) (hi : X.N[i]? = some x) (hx : Loc X.env.scope x) (he : PuE X e g) (ho : PIp X op (rD X.K f)) (hf : X.fn x = true ∨ X.env.scope.names.lookup x = some .local := by first | exact .inl rfl | exact .inr rfl | assumption) :
    PuS X (.AugAssign (.Name x p) op e pos) (sSet i (eBin f (eVar i) g)) := PS.conv (ps_aug hN hi hx he ho hf) fun Dn σ H lk ⟨Hb, F, O0, ρ, out, fr, hs, he⟩ => by
  obtain ⟨d, e1, e2⟩ := Option.map_eq_some_iff.mp hs
  subst e2
  obtain ⟨O, er, n, q⟩ := fr.env
  obtain ⟨da, h1, h2⟩ := Option.bind_eq_some_iff.mp e1
  obtain ⟨db, h3, h4⟩ := Option.bind_eq_some_iff.mp h2
  unfold eVar at h1
  split at h1
  · rename_i d0 h0
    cases h1
    obtain ⟨v, f1, f2⟩ := er.dat i _ h0
    refine ⟨v, f1, _, ρ, db, er, h3, fun w H1 s l dp => ⟨O ++ O0, _, db, d, ThereO.mono s er.there, l, .dp (dp_mono (same_hid s) f2), .dp dp, h4, fun z H2 s2 dz => ?_⟩⟩
    exact he _ H2 ⟨fr.same.trans (s.trans s2), fr.there0, fr.ownB.kept (ownK_dat ρ σ i _ _), O, (er.mono (s.trans s2)).setD i dz, n, q.trans (same_hid (s.trans s2))⟩
  · cases h1
/-- a, b = x, y (plain locals) -/
def sPar (i j : Nat) (gs : AF) : SF := fun ρ => (gs ρ).bind fun ds => match ds with
  | [a, b] => some (.nx (setS (setS ρ i (.dat a)) j (.dat b)))
  | _ => none
theorem s_par {i j : Nat} {x y : Str} {a b : Expr} {px py pt : Pos} {kt k2 pt2} (hc : X.calm = true) (hN : X.N.Nodup) (hi : X.N[i]? = some x) (hj : X.N[j]? = some y) (hij : i ≠ j)
    (hx : X.env.scope.names.lookup x = some .local) (hy : X.env.scope.names.lookup y = some .local) (ha : PuA X [a, b] gs)
    (hw : swappedStores [.Tuple [.Name x px, .Name y py] kt pt] (.Tuple [a, b] k2 pt2) X.env = pure (some [x, y]))
    (hs : swapsWithSole [.Tuple [.Name x px, .Name y py] kt pt] (.Tuple [a, b] k2 pt2) pos.line X.env = pure false := by rfl) :
    PuS X (.Assign [.Tuple [.Name x px, .Name y py] kt pt] (.Tuple [a, b] k2 pt2) pos) (sPar i j gs) := PS.conv (ps_par hc hN hi hj hij hx hy ha hw hs) fun Dn σ H lk ⟨Hb, F, O0, ρ, out, fr, hs, he⟩ => by
  obtain ⟨ds, e1, e2⟩ := Option.bind_eq_some_iff.mp hs
  obtain ⟨O, er, n, q⟩ := fr.env
  refine ⟨_, ρ, ds, er, e1, fun vs H1 s l dp => ?_⟩
  split at e2
  · cases e2
    cases dp with
    | cons d1 dp => cases dp with
      | cons d2 dp => cases dp with
        | nil =>
          refine ⟨_, _, rfl, he _ H1 ⟨fr.same.trans s, fr.there0, (fr.ownB.kept (ownK_dat ρ σ i _ _)).kept (ownK_dat _ _ j _ _), O, ?_, n, q.trans (same_hid s)⟩⟩
          exact ((er.mono s).setD i d1).setD j d2
  · cases e2
/-- row[i] = e, the list one that is written -/
def sIx (j : Nat) (gi ge : EF) : SF := fun ρ => match getS ρ j with
  | .own ds => (ge ρ).bind fun d => (gi ρ).bind fun k => (asI k).bind fun k => (ixN ds.length k).map fun m => .nx (setS ρ j (.own (ds.set m d)))
  | _ => none
theorem s_ix {j : Nat} {x : Str} {p tp : Pos} {idx : Expr} {gi : EF} (ho : PE X (.Name x p) (tVar j)) (hidx : PuV X idx gi) (he : PuE X e g)
    (ha : ∀ v, assign (.Subscript (.Name x p) idx tp) X.env v = (do
      let ov ← holding [v] (eval (.Name x p) X.env)
      let iv ← holding [v, ov] (eval idx X.env)
      standAt tp
      holding [v, ov, iv] (setItem ov iv v)
      release [v, ov, iv] []) := by intro _; rfl)
    (hs : swapsWithSole [.Subscript (.Name x p) idx tp] e pos.line X.env = pure false := by rfl) (hw : swappedStores [.Subscript (.Name x p) idx tp] e X.env = pure none := by rfl)
    (h1 : (assignEach [.Subscript (.Name x p) idx tp] X.env).map (·.2) = [assign (.Subscript (.Name x p) idx tp) X.env] := by rfl) : PuS X (.Assign [.Subscript (.Name x p) idx tp] e pos) (sIx j gi g) :=
  PS.conv (ps_asg he (pg_sub ho hidx set_list ha) hs hw h1) fun Dn σ H lk ⟨Hb, F, O0, ρ, out, fr, hs, he⟩ => by
    unfold sIx at hs
    split at hs
    · rename_i ds e0
      obtain ⟨d, e1, hs⟩ := Option.bind_eq_some_iff.mp hs
      obtain ⟨k0, e2, hs⟩ := Option.bind_eq_some_iff.mp hs
      obtain ⟨k, e3, hs⟩ := Option.bind_eq_some_iff.mp hs
      obtain ⟨m, e4, e5⟩ := Option.map_eq_some_iff.mp hs
      subst e5
      have := asI_some e3
      subst this
      obtain ⟨O, er, n, q⟩ := fr.env
      obtain ⟨l, vs, el, lO, hH, hd⟩ := er.own j ds e0
      refine ⟨_, ρ, d, er, e1, fun v H1 s1 l1 dp => ⟨.ref l, el, _, ρ, _, er.mono s1, e2, fun i' H2 s2 l2 vi => ?_⟩⟩
      have s := s1.trans s2
      refine ⟨l, vs, k, m, rfl, vi.int, s _ _ hH, by rw [dpAll_len hd]; exact e4, ?_⟩
      exact he _ _ (frr_up (fr.same.trans s) fr.there0 fr.ownB (er.mono s) n (q.trans (same_hid s)) e0 el (dpAll_set m (dpAll_mono (same_hid s) hd) (dp_mono (same_hid s2) dp)))
    · cases hs
/-- rows.extend(e) -/
theorem mt_extR : MtM X "list.extend" (fun x vs H Q => ∃ l b xs zs, x = .ref l ∧ vs = [.ref b] ∧ H l = some (.lst xs) ∧ Rd H b (.lst zs) ∧ xs.length + zs.length ≤ sizeLine ∧ Q .non (upd H l (.lst (xs ++ zs)))) := by
  intro pins s σ H x vs v us Q I rx rv h
  obtain ⟨l, b, xs, zs, rfl, rfl, hH, hB, hz, q⟩ := h
  cases rx
  obtain ⟨u, rfl, ru⟩ := rv.one
  cases ru
  obtain ⟨z, its, n, r, hl, e⟩ := I.lstM hH
  obtain ⟨z2, its2, n2, r2, e2⟩ := hB.ok I.hok
  have hl2 := r2.length
  have hsz : its.toArray.size + its2.toArray.size ≤ sizeLine := by rw [List.size_toArray, List.size_toArray]; omega
  have hlong : ¬ (!its.toArray.isEmpty && Builtin.List.listTooLong (its.toArray.size + its2.toArray.size)) = true := by
    rw [notLongL hsz, Bool.and_false]
    exact Bool.false_ne_true
  refine PySem.call_meets PySem.F.slot_list_extend ⟨_, e, rfl⟩ PySem.F.entry_list_extend (PySem.F.args_list_extend_2 _ _)
    (PySem.AutoSeq1.list_extend_list_list_0 l its.toArray n b its2.toArray n2 hlong (by rw [List.size_toArray]; omega) (by omega)) ⟨e, e2, ?_⟩
  refine ⟨.non, _, I.lset (its' := its ++ its2) hH e (by simp) (r.append r2) ?_, rfl, q⟩
  rw [List.length_append]
  omega
theorem s_ext {i : Nat} {x : Str} {p apos : Pos} (ho : PE X (.Name x p) (tVar i)) (ha : PuE X e g) (hsw : swapsWith (.Call (.Attribute (.Name x p) "extend" apos) [e] [] pos) none pos.line X.env = pure false := by rfl)
    (hbase : attributeBase (.Name x p) "extend" X.env (eval (.Name x p) X.env) = eval (.Name x p) X.env := by rfl)
    (hfew : ((backTo pos (starEach [e] X.env)).all (fun x => !x.1) && (backToKw pos (keywordEach [] X.env)).all (fun x => x.1.isSome)
      && decide (([e] : List Expr).length + ([] : List Keyword).length + (if ([] : List Keyword).isEmpty then 0 else 1) < 30)) = true := by rfl)
    (hline : (apos.endLine == pos.line) = true := by rfl) (hs : starEach [e] X.env = (false, eval e X.env) :: starEach [] X.env := by rfl) (hplain : (backTo pos (starEach [] X.env)).any (·.1) = false := by rfl) :
    PuS X (.Expr (.Call (.Attribute (.Name x p) "extend" apos) [e] [] pos) pos) (sExt i g) :=
  PS.conv (ps_expr (pe_bm PySem.F.plainAttrs_list PySem.F.slot_list_extend PySem.F.type_list_extend mt_extR ho (pa_cons ha pa_nil hs) hbase hfew hline hs hplain) hsw) fun Dn σ H lk ⟨Hb, F, O0, ρ, out, fr, hs, he⟩ => by
    unfold sExt at hs
    split at hs
    · rename_i ds e0
      obtain ⟨d, e1, e2⟩ := Option.bind_eq_some_iff.mp hs
      split at e2
      · split at e2
        · rename_i hlt
          cases e2
          obtain ⟨O, er, n, q⟩ := fr.env
          obtain ⟨l, vs, el, lO, hH, hd⟩ := er.own i ds e0
          refine ⟨.ref l, el, .inl ⟨rfl, vs, .inl (.inl hH)⟩, _, ρ, _, er, e1, fun v H' s lk' dp => ?_⟩
          obtain ⟨b, ws, rfl, hb, hw⟩ := Dq.lst' dp
          refine ⟨l, b, vs, ws, rfl, rfl, s _ _ hH, same_rd same_unhid hb, by rw [dpAll_len hd, dpAll_len hw, lim_eq]; exact hlt, ?_⟩
          exact he _ _ (frr_up (fr.same.trans s) fr.there0 fr.ownB (er.mono s) n (q.trans (same_hid s)) e0 el (dpAll_app (dpAll_mono (same_hid s) hd) hw))
        · cases e2
      · cases e2
    · cases hs
/-! ### isinstance -/
def tyD : D → String
  | .none => "NoneType"
  | .bool _ => "bool"
  | .int _ => "int"
  | .str _ => "str"
  | .list _ => "list"
  | .tuple _ => "tuple"
  | .dict _ => "dict"
def isiD (T : String) (d : D) : Option D := (kitB (tyD d) T).map .bool
def eIsi (T : String) (g : EF) : EF := fun ρ => (g ρ).bind (isiD T)
theorem tyX_of {K : PySem.W.Frag} {O : List Addr} {H : Hp} {v : V} {d : D} (h : Vw K O H v d) : TyX K H v (.type (tyD d)) := by
  cases d with
  | none => cases h.non; exact .base .non
  | bool b => cases h.bl; exact .base (.bl b)
  | int i => cases h.int; exact .base (.int i)
  | str x => cases h.str; exact .base (.str x)
  | list xs =>
    obtain ⟨a, vs, rfl, hs, _⟩ := h.lst
    rcases hs with hs | ⟨o, hs⟩
    · exact .base (.lst hs)
    · exact .base (.frz hs)
  | tuple xs =>
    obtain ⟨a, vs, rfl, hs, _⟩ := h.tup
    rcases hs with (hs | ⟨o, hs⟩) | ⟨o, its, n, hs, hc, _⟩
    · exact .base (.tup hs)
    · exact .fTuple hs
    · exact .kTuple hs hc
  | dict _ => cases h with | dp h => cases h
theorem pu_isi {T x : Str} {Ts : String} {p q : Pos} (hg : Gl X "isinstance") (hm : X.mg "isinstance" = none) (hv : bootBuiltins "isinstance" = some (.builtin "isinstance")) (ha : PuV X e g)
    (hgT : Gl X T) (hmT : X.mg T = none) (hvT : bootBuiltins T = some (.type Ts)) (hTn : T ≠ "__name__" := by decide) (hTd : (T == ("__debug__" : Str)) = false := by decide)
    (he : starEach [e, .Name T q] X.env = (false, eval e X.env) :: starEach [.Name T q] X.env := by rfl) (he2 : starEach [.Name T q] X.env = (false, eval (.Name T q) X.env) :: starEach [] X.env := by rfl) (hpl : (backTo pos (starEach [.Name T q] X.env)).any (·.1) = false := by rfl) :
    PuE X (.Call (.Name "isinstance" p) [e, .Name T q] [] pos) (eIsi Ts g) :=
  PE.conv (pe_callB call_isi hg hm hv (pa_cons ha (pa_cons (pe_bltn (v := .ty Ts) hgT hmT hvT rfl hTn hTd) pa_nil he2) he) (by decide) (by decide) he hpl) fun σ H Q lk ⟨O, ρ, d, er, hg, hq⟩ => by
    obtain ⟨da, e1, e2⟩ := Option.bind_eq_some_iff.mp hg
    unfold isiD at e2
    obtain ⟨b, e3, e4⟩ := Option.map_eq_some_iff.mp e2
    subst e4
    exact ⟨O, ρ, da, er, e1, fun v H1 s l vw => ⟨v, .ty Ts, .type (tyD da), .type Ts, b, rfl, .ty Ts, tyX_of vw, kit_ty e3, fun l' => hq _ H1 s l' (.bl b)⟩⟩
end
/-! ### what the built-ins' names are -/
theorem bt_len : bootBuiltins "len" = some (.builtin "len") := by decide +kernel
theorem bt_tuple : bootBuiltins "tuple" = some (.type "tuple") := by decide +kernel
theorem bt_list : bootBuiltins "list" = some (.type "list") := by decide +kernel
theorem bt_int : bootBuiltins "int" = some (.type "int") := by decide +kernel
theorem bt_bool : bootBuiltins "bool" = some (.type "bool") := by decide +kernel
theorem bt_str : bootBuiltins "str" = some (.type "str") := by decide +kernel
theorem bt_dict : bootBuiltins "dict" = some (.type "dict") := by decide +kernel
theorem bt_set : bootBuiltins "set" = some (.type "set") := by decide +kernel
theorem bt_all : bootBuiltins "all" = some (.builtin "all") := by decide +kernel
theorem bt_any : bootBuiltins "any" = some (.builtin "any") := by decide +kernel
theorem bt_max : bootBuiltins "max" = some (.builtin "max") := by decide +kernel
theorem bt_min : bootBuiltins "min" = some (.builtin "min") := by decide +kernel
theorem bt_sum : bootBuiltins "sum" = some (.builtin "sum") := by decide +kernel
theorem bt_sorted : bootBuiltins "sorted" = some (.builtin "sorted") := by decide +kernel
theorem bt_isinstance : bootBuiltins "isinstance" = some (.builtin "isinstance") := by decide +kernel
end PL

set_option Elab.async false
set_option linter.all false
set_option maxRecDepth 100000
set_option maxHeartbeats 2000000
/-! PL3c: comprehensions of two clauses; sums of lists as new lists. -/
namespace PL
open PySem L2
def NotD (Dl : Addr) (ρ : Env) (σ : L2.St) : Prop := ∀ i ds, getS ρ i = .own ds → σ[i]? ≠ some (some (.ref Dl))
theorem NotD.kept {Dl : Addr} {ρ ρ' : Env} {σ σ' : L2.St} (n : NotD Dl ρ σ) (k : OwnK ρ ρ' σ σ') : NotD Dl ρ' σ' := fun i ds h e => by
  obtain ⟨h1, e1⟩ := k i ds h
  exact n i ds h1 (e1 ▸ e)
theorem ownK_un (ρ : Env) (σ : L2.St) (i : Nat) (v : Option V) : OwnK ρ (setS ρ i .un) σ (σ.set i v) := fun j ds h => by
  rcases get_set_cases ρ i j .un (by rw [h]; intro z; cases z) with ⟨rfl, _, q⟩ | ⟨ne, q⟩
  · rw [q] at h; cases h
  · rw [q] at h; exact ⟨h, List.getElem?_set_ne (Ne.symm ne)⟩
theorem ownK_wipe (ρ : Env) (σ : L2.St) : ∀ vs : List Nat, OwnK ρ (wipeE vs ρ) σ (wipe σ vs)
  | [] => OwnK.refl ρ σ
  | v :: vs => (ownK_wipe ρ σ vs).trans (ownK_un _ _ v none)
theorem env_step {K : PySem.W.Frag} {O : List Addr} {H H' : Hp} {ρ : Env} {σ : L2.St} {Dl : Addr} {xs : List V} (e : EnvR K (Dl :: O) H ρ σ) (s : Same (hid [Dl] H) (hid [Dl] H')) (h' : H' Dl = some (.lst xs)) (n : NotD Dl ρ σ) : EnvR K (Dl :: O) H' ρ σ := by
  have s1 : ∀ a o, a ≠ Dl → H a = some o → H' a = some o := fun a o ne z => by
    have n1 : a ∉ [Dl] := fun m => ne (List.mem_singleton.mp m)
    have := s a o (by rw [hid_out n1]; exact z)
    rw [hid_out n1] at this; exact this
  have s2 : Same (hid (Dl :: O) H) (hid (Dl :: O) H') := fun a o z => by
    obtain ⟨n1, z1⟩ := hid_some z
    rw [hid_out n1]
    exact s1 a o (fun q => n1 (by rw [q]; exact List.mem_cons_self)) z1
  refine ⟨e.len, fun l m => ?_, fun i d q => ?_, fun i ds q => ?_, e.inj⟩
  · by_cases z : l = Dl
    · subst z; exact ⟨xs, h'⟩
    · obtain ⟨vs, q⟩ := e.there l m
      exact ⟨vs, s1 _ _ z q⟩
  · obtain ⟨v, a, b⟩ := e.dat i d q
    exact ⟨v, a, dp_mono s2 b⟩
  · obtain ⟨l, vs, a, b, c, d⟩ := e.own i ds q
    have : l ≠ Dl := fun z => n i ds q (by rw [a, z])
    exact ⟨l, vs, a, b, s1 _ _ this c, dpAll_mono s2 d⟩
/-- all but the list at Dl stands -/
theorem same_but {H H' : Hp} {Dl : Addr} (s : Same H H') : Same (hid [Dl] H) (hid [Dl] H') := same_hid s
theorem same_but_upd {H H' : Hp} {Dl : Addr} {o : HO} (s : Same (hid [Dl] H) (hid [Dl] H')) : Same (hid [Dl] H) (hid [Dl] (upd H' Dl o)) := by
  rw [hid_upd List.mem_cons_self]; exact s
theorem same_hidO {H H' : Hp} {Dl : Addr} {O : List Addr} (s : Same (hid [Dl] H) (hid [Dl] H')) : Same (hid (Dl :: O) H) (hid (Dl :: O) H') := fun a o z => by
  obtain ⟨n1, z1⟩ := hid_some z
  have n2 : a ∉ [Dl] := fun m => n1 (by rw [List.mem_singleton.mp m]; exact List.mem_cons_self)
  have := s a o (by rw [hid_out n2]; exact z1)
  rw [hid_out n2] at this
  rw [hid_out n1]; exact this
def LcV (K : PySem.W.Frag) (O : List Addr) (H1 : Hp) (Dl : Addr) (rest : Option (List D)) (ys : List D) (H : Hp) : Prop :=
  Same H1 H ∧ ∃ acc done r, H Dl = some (.lst acc) ∧ DqAll K (hid (Dl :: O) H) acc done ∧ rest = some r ∧ ys = done ++ r
def compD2 (gg : GF) (t : TF) (gi1 : LF) (vs1 : List Nat) (gg1 : GF) (t1 : TF) (g : EF) (ρ : Env) : List D → Option (List D)
  | [] => some []
  | d :: ds => (gg d ρ).bind fun ρ1 => (t ρ1).bind fun b => if b = true then (gi1 ρ1).bind fun es => (compD gg1 t1 g (wipeE vs1 ρ1) es).bind fun ys => (compD2 gg t gi1 vs1 gg1 t1 g ρ ds).map fun zs => ys ++ zs
    else compD2 gg t gi1 vs1 gg1 t1 g ρ ds
def lComp2 (vs vs1 : List Nat) (gi : LF) (gg : GF) (t : TF) (gi1 : LF) (gg1 : GF) (t1 : TF) (g : EF) : LF := fun ρ => (gi ρ).bind fun ds => (compD2 gg t gi1 vs1 gg1 t1 g (wipeE vs ρ) ds).bind fun ys => if ys.length ≤ LIM then some ys else none
theorem comp2_run {K : PySem.W.Frag} {gi gi1 : LF} {gg gg1 : GF} {is is1 vs vs1 : List Nat} {t t1 : TF} {g : EF} {σ : L2.St} {H : Hp} {Q : VK} (his : ∀ i ∈ is, i ∈ vs) (his1 : ∀ i ∈ is1, i ∈ vs1) (h : tF K (lComp2 vs vs1 gi gg t gi1 gg1 t1 g) σ H Q) :
    tLc2 (tIV K gi) (tG K gg is) (tT K t) (tI K gi1) (tG K gg1 is1) (tT K t1) (tP K g) vs vs1 σ H Q := by
  obtain ⟨O, ρ, ys, er, hg, hq⟩ := h
  obtain ⟨ds, e1, hg⟩ := Option.bind_eq_some_iff.mp hg
  obtain ⟨ys', e2, hg⟩ := Option.bind_eq_some_iff.mp hg
  split at hg
  case isFalse => cases hg
  rename_i hlim
  cases hg
  refine ⟨O, ρ, ds, er, e1, fun J H1 s1 l1 nl w Dl hn => ?_⟩
  have er1 := er.mono s1
  have hH : H Dl = none := s1.free hn
  have nd1 : NotD Dl ρ σ := fun i es q z => by
    obtain ⟨l, ws, a, _, c, _⟩ := er1.own i es q
    rw [z] at a; cases a
    rw [hn] at c; cases c
  refine ⟨fun i m H' => m = ds.length - i ∧ i ≤ ds.length ∧ LcV K O H1 Dl (compD2 gg t gi1 vs1 gg1 t1 g (wipeE vs ρ) (ds.drop i)) ys H', ⟨_, rfl, Nat.zero_le _, same_upd hn, [], [], ys, upd_same, .nil, e2, rfl⟩, ?_⟩
  rintro i m H' ⟨rfl, hi, s2, acc, done, r, ha, hd, hr, hy⟩
  by_cases hlt : i < ds.length
  · rw [List.drop_eq_getElem_cons hlt] at hr
    obtain ⟨ρ1, f1, hr⟩ := Option.bind_eq_some_iff.mp hr
    obtain ⟨b, f2, hr⟩ := Option.bind_eq_some_iff.mp hr
    refine .inr ⟨w.go i H' s2 hlt, LcV K O H1 Dl (compD2 gg t gi1 vs1 gg1 t1 g (wipeE vs ρ) (ds.drop (i + 1))) ys, fun H2 h2 => ⟨ds.length - (i + 1), by omega, rfl, hlt, h2⟩, fun x H2 y => ?_⟩
    obtain ⟨s3, dp⟩ := w.yld i H' x H2 _ s2 (List.getElem?_eq_getElem hlt) y
    have ha2 := s3 _ _ ha
    have er2 : EnvR K (Dl :: O) H2 (wipeE vs ρ) (wipe σ vs) := wipe_env (env_in er1 (s2.trans s3) hn ha2) vs
    have sx : Same (hid O H1) (hid (Dl :: O) H') := (dp_hide hn).trans (same_hid s2)
    have th : ThereO (Dl :: O) H' := fun l m => by
      rcases List.mem_cons.mp m with z | z
      · subst z; exact ⟨acc, ha⟩
      · obtain ⟨ws, q⟩ := er1.there l z
        exact ⟨ws, s2 _ _ q⟩
    refine ⟨Dl :: O, wipeE vs ρ, _, ρ1, er2, dp _ th sx, f1, fun σ2 er3 k3 w2 => ⟨(w2 vs his).trans (wipe_wipe σ vs), Dl :: O, ρ1, b, er3, f2, fun H3 s4 l3 => ?_⟩⟩
    have ha3 := s4 _ _ ha2
    have hd3 := dpAll_mono (same_hid (s3.trans s4)) hd
    have nd2 : NotD Dl ρ1 σ2 := (nd1.kept (ownK_wipe ρ σ vs)).kept k3
    cases b with
    | true =>
      rw [if_pos rfl] at hr
      refine iteT ?_
      obtain ⟨es, f3, hr⟩ := Option.bind_eq_some_iff.mp hr
      obtain ⟨ys1, f4, hr⟩ := Option.bind_eq_some_iff.mp hr
      obtain ⟨zs, f5, f6⟩ := Option.map_eq_some_iff.mp hr
      subst f6
      refine ⟨Dl :: O, ρ1, es, er3.mono s4, f3, fun J1 H4 s5 l4 nl1 w1 => ?_⟩
      have er4 := er3.mono (s4.trans s5)
      have ha4 := s5 _ _ ha3
      refine ⟨fun j k H5 => k = es.length - j ∧ j ≤ es.length ∧ Same (hid [Dl] H4) (hid [Dl] H5) ∧ Same H1 H5 ∧ ∃ acc done r1, H5 Dl = some (.lst acc) ∧ DqAll K (hid (Dl :: O) H5) acc done ∧ compD gg1 t1 g (wipeE vs1 ρ1) (es.drop j) = some r1 ∧ ys = done ++ (r1 ++ zs),
        ⟨_, rfl, Nat.zero_le _, Same.refl _, s2.trans (s3.trans (s4.trans s5)), acc, done, ys1, ha4, dpAll_mono (same_hid s5) hd3, f4, hy⟩, ?_⟩
      rintro j k H5 ⟨rfl, hj, sb, s15, acc1, done1, r1, ha5, hd5, hr1, hy1⟩
      have sB : Same (hid (Dl :: O) H4) H5 := (same_hidO sb).trans same_unhid
      by_cases hlt1 : j < es.length
      · rw [List.drop_eq_getElem_cons hlt1] at hr1
        obtain ⟨ρ2, g1, hr1⟩ := Option.bind_eq_some_iff.mp hr1
        obtain ⟨b1, g2, hr1⟩ := Option.bind_eq_some_iff.mp hr1
        refine .inr ⟨w1.go j H5 sB hlt1, fun H6 => Same (hid [Dl] H4) (hid [Dl] H6) ∧ Same H1 H6 ∧ ∃ acc done r1, H6 Dl = some (.lst acc) ∧ DqAll K (hid (Dl :: O) H6) acc done ∧ compD gg1 t1 g (wipeE vs1 ρ1) (es.drop (j + 1)) = some r1 ∧ ys = done ++ (r1 ++ zs),
          fun H6 h6 => ⟨es.length - (j + 1), by omega, rfl, hlt1, h6⟩, fun x1 H6 y1 => ?_⟩
        obtain ⟨s6, dp1⟩ := w1.yld j H5 x1 H6 _ sB (List.getElem?_eq_getElem hlt1) y1
        have ha6 := s6 _ _ ha5
        have sb6 : Same (hid [Dl] H4) (hid [Dl] H6) := sb.trans (same_but s6)
        have er6 : EnvR K (Dl :: O) H6 (wipeE vs1 ρ1) (wipe σ2 vs1) := wipe_env (env_step er4 sb6 ha6 nd2) vs1
        have th5 : ThereO (Dl :: O) H5 := (env_step er4 sb ha5 nd2).there
        refine ⟨Dl :: O, wipeE vs1 ρ1, _, ρ2, er6, dp1 _ th5 (same_hidO sb), g1, fun σ3 er7 _ w3 => ⟨(w3 vs1 his1).trans (wipe_wipe σ2 vs1), Dl :: O, ρ2, b1, er7, g2, fun H7 s7 l7 => ?_⟩⟩
        have ha7 := s7 _ _ ha6
        have hd7 := dpAll_mono (same_hid (s6.trans s7)) hd5
        cases b1 with
        | true =>
          rw [if_pos rfl] at hr1
          refine iteT ?_
          obtain ⟨y2, g3, hr1⟩ := Option.bind_eq_some_iff.mp hr1
          obtain ⟨r2, g4, g5⟩ := Option.map_eq_some_iff.mp hr1
          subst g5
          refine ⟨Dl :: O, ρ2, y2, er7.mono s7, g3, fun v H8 s8 l8 dpy => ⟨acc1, s8 _ _ ha7, ?_, same_but_upd (sb6.trans (same_but (s7.trans s8))), same_updO (s15.trans (s6.trans (s7.trans s8))) hn, acc1 ++ [v], done1 ++ [y2], r2, upd_same, ?_, g4, ?_⟩⟩
          · have h1 : ys.length = done1.length + ((y2 :: r2) ++ zs).length := by rw [hy1, List.length_append]
            rw [List.length_append, List.length_cons] at h1
            rw [dpAll_len hd5, lim_eq]
            omega
          · rw [hid_upd List.mem_cons_self]
            exact dpAll_app (dpAll_mono (same_hid s8) hd7) (.cons dpy .nil)
          · rw [hy1, List.append_assoc]; rfl
        | false =>
          rw [if_neg (by decide)] at hr1
          refine iteF ?_
          exact ⟨sb6.trans (same_but s7), s15.trans (s6.trans s7), acc1, done1, r1, ha7, hd7, hr1, hy1⟩
      · have ej : j = es.length := by omega
        subst ej
        rw [List.drop_length] at hr1
        cases hr1
        exact .inl ⟨w1.stop _ H5 sB (Nat.le_refl _), s15, acc1, done1, zs, ha5, hd5, f5, hy1⟩
    | false =>
      rw [if_neg (by decide)] at hr
      refine iteF ?_
      exact ⟨s2.trans (s3.trans s4), acc, done, r, ha3, hd3, hr, hy⟩
  · have ei : i = ds.length := by omega
    subst ei
    rw [List.drop_length] at hr
    cases hr
    rw [List.append_nil] at hy
    subst hy
    exact .inl ⟨w.stop _ H' s2 (Nat.le_refl _), hq Dl acc H' (s1.trans s2) hH ha hd⟩
section
variable {X : Cx} {pos : Pos}
theorem pf_comp2 {elt tg iter tg1 iter1 : Expr} {ifs ifs1 : List Expr} {scope : Scope} {own : List (Str × Nat)} {vs1 : List Nat} {gi gi1 : LF} {gg gg1 : GF} {is is1 : List Nat} {t t1 : TF} {g : EF} (hc : X.calm = true) (hN : X.N.Nodup) (hi : PuIV X tg iter gi) (ok : BlkOk X.N X.env.scope scope own)
    (his : ∀ i ∈ is, i ∈ own.map (·.2)) (hv : ∀ i ∈ vs1, i ∈ own.map (·.2)) (his1 : ∀ i ∈ is1, i ∈ vs1)
    (hg : ∀ (s : Shared) (H : Hp) (C : Addr) (cl : List (Str × Addr)) (fp : List Addr), PuG (X.blk s H scope (compEnvC scope cl C X.env) fp) tg gg is) (ht : ∀ (s : Shared) (H : Hp) (C : Addr) (cl : List (Str × Addr)) (fp : List Addr), PuTs (X.blk s H scope (compEnvC scope cl C X.env) fp) ifs t)
    (hi1 : ∀ (s : Shared) (H : Hp) (C : Addr) (cl : List (Str × Addr)) (fp : List Addr), PuI (X.blk s H scope (compEnvC scope cl C X.env) fp) tg1 iter1 gi1)
    (hg1 : ∀ (s : Shared) (H : Hp) (C : Addr) (cl : List (Str × Addr)) (fp : List Addr), PuG (X.blk s H scope (compEnvC scope cl C X.env) fp) tg1 gg1 is1) (ht1 : ∀ (s : Shared) (H : Hp) (C : Addr) (cl : List (Str × Addr)) (fp : List Addr), PuTs (X.blk s H scope (compEnvC scope cl C X.env) fp) ifs1 t1)
    (he : ∀ (s : Shared) (H : Hp) (C : Addr) (cl : List (Str × Addr)) (fp : List Addr), PuE (X.blk s H scope (compEnvC scope cl C X.env) fp) elt g) (hs : ∀ x, foldedSetIterable iter X.env x = pure x := by intro _; rfl) (hs1 : ∀ env x, foldedSetIterable iter1 env x = pure x := by intro _ _; rfl) :
    PuF X (.ListComp elt [⟨tg, iter, ifs, 0⟩, ⟨tg1, iter1, ifs1, 0⟩] scope pos) (lComp2 (own.map (·.2)) vs1 gi gg t gi1 gg1 t1 g) :=
  PE.conv (pe_lc2 hc hN hi ok hv hg ht hi1 hg1 ht1 he hs hs1) fun σ H Q lk ⟨O, ρ, ys, er, hg, hq⟩ => comp2_run his his1 ⟨O, ρ, ys, er, hg, fun l vs H' s hn hl dp _ => hq l vs H' s hn hl dp⟩
theorem s_setLc2 {i : Nat} {y : Str} {py : Pos} {elt tg iter tg1 iter1 : Expr} {ifs ifs1 : List Expr} {scope : Scope} {own : List (Str × Nat)} {vs1 : List Nat} {p2 : Pos} {gi gi1 : LF} {gg gg1 : GF} {is is1 : List Nat} {t t1 : TF} {g : EF} (hc : X.calm = true) (hN : X.N.Nodup) (hy : X.N[i]? = some y) (hyl : X.env.scope.names.lookup y = some .local)
    (hsw : swapsWith (.ListComp elt [⟨tg, iter, ifs, 0⟩, ⟨tg1, iter1, ifs1, 0⟩] scope p2) (some (.Name y py)) pos.line X.env = pure true) (hi : PuIV X tg iter gi) (ok : BlkOk X.N X.env.scope scope own)
    (his : ∀ i ∈ is, i ∈ own.map (·.2)) (hv : ∀ i ∈ vs1, i ∈ own.map (·.2)) (his1 : ∀ i ∈ is1, i ∈ vs1)
    (hg : ∀ (s : Shared) (H : Hp) (C : Addr) (cl : List (Str × Addr)) (fp : List Addr), PuG (X.blk s H scope (compEnvC scope cl C X.env) fp) tg gg is) (ht : ∀ (s : Shared) (H : Hp) (C : Addr) (cl : List (Str × Addr)) (fp : List Addr), PuTs (X.blk s H scope (compEnvC scope cl C X.env) fp) ifs t)
    (hi1 : ∀ (s : Shared) (H : Hp) (C : Addr) (cl : List (Str × Addr)) (fp : List Addr), PuI (X.blk s H scope (compEnvC scope cl C X.env) fp) tg1 iter1 gi1)
    (hg1 : ∀ (s : Shared) (H : Hp) (C : Addr) (cl : List (Str × Addr)) (fp : List Addr), PuG (X.blk s H scope (compEnvC scope cl C X.env) fp) tg1 gg1 is1) (ht1 : ∀ (s : Shared) (H : Hp) (C : Addr) (cl : List (Str × Addr)) (fp : List Addr), PuTs (X.blk s H scope (compEnvC scope cl C X.env) fp) ifs1 t1)
    (he : ∀ (s : Shared) (H : Hp) (C : Addr) (cl : List (Str × Addr)) (fp : List Addr), PuE (X.blk s H scope (compEnvC scope cl C X.env) fp) elt g) (hs : ∀ x, foldedSetIterable iter X.env x = pure x := by intro _; rfl) (hs1 : ∀ env x, foldedSetIterable iter1 env x = pure x := by intro _ _; rfl) :
    PS X (.Assign [.Name y py] (.ListComp elt [⟨tg, iter, ifs, 0⟩, ⟨tg1, iter1, ifs1, 0⟩] scope p2) pos) (tAsg (tF X.K (lComp2 (own.map (·.2)) vs1 gi gg t gi1 gg1 t1 g)) (gName i)) :=
  PS.conv (ps_setLc2 hc hN hy hyl hsw hi ok hv hg ht hi1 hg1 ht1 he hs hs1) fun Dn σ H lk h => comp2_run his his1 h
/-- l + m, as a new list -/
def lCat (ga gb : EF) : LF := fun ρ => (ga ρ).bind fun a => (gb ρ).bind fun b => match a, b with
  | .list xs, .list ys => if xs.length + ys.length ≤ LIM then some (xs ++ ys) else none
  | _, _ => none
theorem pf_cat {a b : Expr} {ga gb : EF} (ha : PuV X a ga) (hb : PuV X b gb) : PuF X (.BinOp a .Add b pos) (lCat ga gb) := PE.conv (pe_op op_catR ha hb) fun σ H Q lk ⟨O, ρ, d, er, hg, hq⟩ => by
  obtain ⟨da, e1, hg⟩ := Option.bind_eq_some_iff.mp hg
  obtain ⟨db, e2, hg⟩ := Option.bind_eq_some_iff.mp hg
  split at hg
  · split at hg
    · rename_i hl
      cases hg
      refine ⟨O, ρ, _, er, e1, fun x H1 s1 l1 v1 => ⟨O, ρ, _, er.mono s1, e2, fun y H2 s2 l2 v2 => ?_⟩⟩
      obtain ⟨l, vs, rfl, hs, ha⟩ := (v1.mono s2).lst
      obtain ⟨m, ws, rfl, ht, hb⟩ := v2.lst
      exact ⟨l, m, vs, ws, rfl, rfl, hs, ht, by rw [dpAll_len ha, dpAll_len hb, lim_eq]; exact hl, fun p hp _ => hq p _ _ ((s1.trans s2).trans (same_upd hp)) ((s1.trans s2).free hp) upd_same (dq_hide hp (dpAll_app ha hb))⟩
    · cases hg
  · cases hg
/-- a call that hands back a list, as a list of one's own: not sound in general, so it is not here -/
theorem hu0 {k : Nat} {A : Around} (h : Room k A) : A.units < cLine := h.units0
theorem hu64 {k : Nat} {A : Around} (h : Room k A) : A.units + 64 < cLine := h.units
theorem hu65 {k : Nat} {A : Around} (h : Room k A) : A.units + 65 < cLine := by have := h.un; omega
end
end PL

set_option Elab.async false
set_option linter.all false
set_option maxRecDepth 100000
set_option maxHeartbeats 2000000
/-! PL4: sorted over plain data: lists and tuples of alike data, at any length; tuples that may be empty among them. -/
namespace PySem.W
open PySem PySem.Calls PyProof.Rows PySem.SeqAt
section
variable {prog : Program} {w : World} {A : Around} {E : Value → Shared → Prop} {s : Shared} {vs : List Value} {κ : PyProof.Rows.KeyKind}
/-- tuples by their own <, as a sort of one type makes it -/
theorem oneLt_tup {xs ys : List PyData} {a b : Value} {as bs : List Addr} {Q : Bool → Shared → Prop} (ra : Reads s.heap a (.tuple xs) as) (rb : Reads s.heap b (.tuple ys) bs) (h : alike (.tuple xs) (.tuple ys) = true)
    (hu : A.units + min (PyData.tuple xs).depth (PyData.tuple ys).depth < cLine) (hq : Q (dataLt (.tuple xs) (.tuple ys)) s) : wpAny (model prog w) A (oneLt' true a b) Q E s := by
  have hal : alikeAll xs ys = true := by simpa [alike] using h
  cases ra with
  | @tuple l o vs n _ as₁ h1 h2 h3 h4 =>
    cases rb with
    | @tuple l' o' vs' n' _ bs₁ k1 k2 k3 k4 =>
      have n1 : vs.size = xs.length := by simpa using ReadsAll.length _ _ _ h4
      have n2 : vs'.size = ys.length := by simpa using ReadsAll.length _ _ _ k4
      rw [dataLt_tuple, ← firstLt_toks xs ys hal, ← n1, ← n2] at hq
      rw [oneLt'_eq]
      simp only [if_true]
      refine wpAny_bind (wpAny_cRoomFor (room_here hu) ?_)
      obtain ⟨cls, dd, data, sl⟩ := o
      obtain ⟨cls2, dd2, data2, sl2⟩ := o'
      simp only at h2 h3 k2 k3
      subst h2 h3 k2 k3
      refine wpAny_bind (wpAny_callSpecialIfBound?_slot (T := "tuple") ⟨_, h1, rfl⟩ PySem.F.slot_tuple_lt (call_meets PySem.F.slot_tuple_lt ⟨_, h1, rfl⟩ PySem.F.entry_tuple_lt (PySem.F.args_tuple_lt_2 _ _)
        (tuple_ltAt l l' vs vs' n n' dd dd2 sl sl2 (pairEq xs ys) (fun j => dataLt (xs.getD j .none) (ys.getD j .none))) ⟨h1, k1, fun j j1 j2 => ?_, fun j j1 j2 hj => ?_, ?_⟩))
      · have := eqAt_alikeAll xs ys A.in1 s vs.toList vs'.toList _ _ h4 k4 hal (room_in hu) j (by simpa using j1) (by simpa using j2)
        simpa using this
      · have := rcLt_alikeAll xs ys A.in1 s vs.toList vs'.toList _ _ h4 k4 hal (room_in hu) j (by simpa using j1) (by simpa using j2) hj
        simpa using this
      · exact wpAny_truthy_bool hq
def nonE : PyData → Bool
  | .tuple (_ :: _) => true
  | _ => false
theorem tup_firsts {M : Model} : ∀ (vs : List Value) (ds : List PyData) {Q : List (Option Value) → Shared → Prop}, EachIs (fun v d => ∃ as, Reads s.heap v d as) vs ds → (∀ d ∈ ds, ∃ xs, d = .tuple xs) → (∀ fs : List (Option Value), fs.map Option.isSome = ds.map nonE → Q fs s) → wpAny M A (vs.mapM firstOfTuple') Q E s
  | [], [], _, _, _, h => by rw [List.mapM_nil]; exact wpAny_pure (h [] rfl)
  | [], _ :: _, _, e, _, _ => by cases e
  | _ :: _, [], _, e, _, _ => by cases e
  | v :: vs, d :: ds, Q, e, ht, h => by
    cases e with
    | cons r e =>
      obtain ⟨as, r⟩ := r
      obtain ⟨xs, rfl⟩ := ht d List.mem_cons_self
      cases r with
      | @tuple l o items n _ as₁ h1 h2 h3 h4 =>
        rw [List.mapM_cons]
        refine wpAny_bind ?_
        rw [kas_first_eq]
        refine wpAny_bind (Looks.here (show Looks M s.heap (typeOf (.ref l)) o.cls from (Looks.ld h1).andThen .now) ?_)
        rw [h2, if_neg (by first | decide | simp)]
        refine wpAny_bind (listItems_at h1 h3 (wpAny_pure ?_))
        refine wpAny_bind (tup_firsts vs ds (Q := fun bs s' => wpAny M A (pure (items[0]? :: bs)) Q E s') e (fun d hd => ht d (List.mem_cons_of_mem _ hd)) fun fs hf => wpAny_pure (h _ ?_))
        rw [List.map_cons, List.map_cons, hf]
        congr 1
        have n1 : items.toList.length = xs.length := ReadsAll.length _ _ _ h4
        rw [← Array.getElem?_toList]
        cases xs with
        | nil =>
          have : items.toList = [] := List.eq_nil_of_length_eq_zero n1
          rw [this]; rfl
        | cons x r =>
          cases hi : items.toList with
          | nil => rw [hi] at n1; simp at n1
          | cons y z => rfl
/-- tuples, empty ones among them -/
theorem SortsAt.tups {ds : List PyData} (e : EachIs (fun v d => ∃ as, Reads s.heap v d as) vs ds) (hal : AllAlike ds) (ht : ∀ d ∈ ds, ∃ xs, d = PyData.tuple xs) (hu : ∀ d, d ∈ ds → A.units + d.depth < cLine) : SortsAt prog w A s (dataKind s.heap ds) vs := by
  by_cases hall : ds.all nonE = true
  · refine SortsAt.data e hal (.inl fun d hd => ?_) hu
    have := List.all_eq_true.mp hall d hd
    obtain ⟨xs, rfl⟩ := ht d hd
    cases xs with
    | nil => cases this
    | cons x r => exact ⟨x, r, rfl⟩
  have room : ∀ {d d' : PyData}, d ∈ ds → A.units + min d.depth d'.depth < cLine := fun {d d'} hd => Nat.lt_of_le_of_lt (Nat.add_le_add_left (Nat.min_le_left _ _) _) (hu d hd)
  refine ⟨fun v hv => ?_, ?_⟩
  · obtain ⟨d, hd, as, r⟩ := e.left v hv
    exact ⟨_, dataKind_some hal hd r⟩
  · by_cases h0 : (ds.head?.map nonE) = some true
    · refine ⟨general', ?_, fun h2 E Q hq => ?_⟩
      · intro E x y a b Q ha hb hq
        obtain ⟨d, as, hd, ra, rfl⟩ := dataKind_inv ha
        obtain ⟨d', as', hd', rb, rfl⟩ := dataKind_inv hb
        exact oneLt_alike (f := false) (fun z => nomatch z) ra rb (hal d hd d' hd') (fun z => by obtain ⟨xs, e'⟩ := ht d hd; rw [z] at e'; cases e') (room hd) hq
      · rw [keyKind'_eq, List.mapM_toArray, map_eq_pure_bind]
        refine wpAny_bind (wpAny_bind (tup_firsts vs ds e ht fun fs hf => wpAny_pure ?_))
        have hn : ¬ (fs.toArray.all fun x => x.isSome) = true := fun z => hall (by
          have z2 : (fs.map Option.isSome).all id = true := by rw [List.all_map]; simpa using z
          rw [hf, List.all_map] at z2
          simpa using z2)
        rw [if_neg hn]
        have hs : (fs.toArray[0]?.bind id).isSome = true := by
          cases ds with
          | nil => simp at h0
          | cons d ds =>
            cases fs with
            | nil => simp at hf
            | cons f fs =>
              rw [List.map_cons, List.map_cons] at hf
              have h1 := (List.cons.inj hf).1
              have h2' : nonE d = true := by simpa using h0
              rw [h2'] at h1
              simpa using h1
        rw [if_pos hs]
        exact wpAny_pure hq
    · refine ⟨oneType', ?_, fun h2 E Q hq => ?_⟩
      · intro E x y a b Q ha hb hq
        obtain ⟨d, as, hd, ra, rfl⟩ := dataKind_inv ha
        obtain ⟨d', as', hd', rb, rfl⟩ := dataKind_inv hb
        rw [keyLt'_oneType]
        have hdd := hal d hd d' hd'
        have hr := room (d' := d') hd
        obtain ⟨xs, rfl⟩ := ht d hd
        obtain ⟨ys, rfl⟩ := ht d' hd'
        exact oneLt_tup ra rb hdd hr hq
      · rw [keyKind'_eq, List.mapM_toArray, map_eq_pure_bind]
        refine wpAny_bind (wpAny_bind (tup_firsts vs ds e ht fun fs hf => wpAny_pure ?_))
        have hn : ¬ (fs.toArray.all fun x => x.isSome) = true := fun z => hall (by
          have z2 : (fs.map Option.isSome).all id = true := by rw [List.all_map]; simpa using z
          rw [hf, List.all_map] at z2
          simpa using z2)
        rw [if_neg hn]
        have hs : ¬ (fs.toArray[0]?.bind id).isSome = true := fun z => h0 (by
          cases ds with
          | nil =>
            have : fs = [] := by simpa using hf
            subst this
            simp at z
          | cons d ds =>
            cases fs with
            | nil => simp at hf
            | cons f fs =>
              rw [List.map_cons, List.map_cons] at hf
              have h1 := (List.cons.inj hf).1
              have z' : f.isSome = true := by simpa using z
              rw [z'] at h1
              simp [← h1])
        rw [if_neg hs]
        rw [oneTypeOnly'_eq, List.mapM_toArray, map_eq_pure_bind]
        have hT : ∀ v ∈ vs, Looks (model prog w) s.heap (typeOf v) (Value.type "tuple") := fun v hv => by
          obtain ⟨d, hd, as, r⟩ := e.left v hv
          obtain ⟨xs, rfl⟩ := ht d hd
          exact looks_reads r
        refine wpAny_bind (wpAny_bind (wpAny_bind (kas_mapM (r := Value.type "tuple") _ (fun v hv Q' hq => (hT v hv).here hq) (wpAny_pure ?_))))
        have hall' : ((List.map (fun _ => Value.type "tuple") vs).toArray.all fun x => x == Value.type "tuple") = true := by
          simp only [List.all_toArray, List.all_map, List.all_eq_true]
          intro _ _
          rfl
        have h0' : (List.map (fun _ => Value.type "tuple") vs).toArray[0]? = some (Value.type "tuple") := by
          cases vs with
          | nil => simp at h2
          | cons v vs => simp
        rw [h0']
        dsimp only
        rw [if_pos hall']
        exact wpAny_pure (wpAny_pure hq)
end
end PySem.W
namespace PL
open PySem PySem.Calls PyProof.Rows L2
open PySem.W (alike AllAlike EachIs dataLe keyToks)
def isTup : D → Bool
  | .tuple _ => true
  | _ => false
def sortOk (ds : List D) : Bool := ds.all okD && (ds.all fun a => ds.all fun b => alike a b) && (ds.all isTup || ds.all fun d => !isTup d && !isNoneD d)
def sortL (ds : List D) : List D := ds.mergeSort (dataLe false id)
def sortD : D → Option D
  | .list ds => if sortOk ds = true then some (.list (sortL ds)) else none
  | .tuple ds => if sortOk ds = true then some (.list (sortL ds)) else none
  | _ => none
section
variable {X : Cx} {pins : List (Addr × Obj)} {σ : L2.St} {H : Hp} {s : Shared}
/-- values, what they stand for, and how they read -/
structure Tri (K : PySem.W.Frag) (F : Hp) (h : Heap) (u : Value) (p : V × D) : Prop where
  rel : RelV p.1 u
  dq : Dq K F p.1 p.2
theorem tri_of {K : PySem.W.Frag} {F : Hp} {h : Heap} : ∀ {vs : List V} {us : List Value} {ds : List D}, Vals vs us → DqAll K F vs ds → EachIs (Tri K F h) us (vs.zip ds)
  | _, _, _, .nil, .nil => .nil
  | _, _, _, .cons r rs, .cons d ds => .cons ⟨r, d⟩ (tri_of rs ds)
theorem tri_back {K : PySem.W.Frag} {F : Hp} {h : Heap} : ∀ {us : List Value} {ps : List (V × D)}, EachIs (Tri K F h) us ps → Vals (ps.map (·.1)) us ∧ DqAll K F (ps.map (·.1)) (ps.map (·.2))
  | _, _, .nil => ⟨.nil, .nil⟩
  | _, _, .cons t e => ⟨.cons t.rel (tri_back e).1, .cons t.dq (tri_back e).2⟩
theorem each_map2 {α β γ : Type} {R : α → γ → Prop} (f : β → γ) : ∀ {as : List α} {bs : List β}, EachIs (fun a b => R a (f b)) as bs → EachIs R as (bs.map f)
  | _, _, .nil => .nil
  | _, _, .cons h t => .cons h (each_map2 f t)
theorem zip_snd {α β : Type} : ∀ {as : List α} {bs : List β}, as.length = bs.length → (as.zip bs).map (·.2) = bs
  | [], [], _ => rfl
  | _ :: as, _ :: bs, h => by
    rw [List.zip_cons_cons, List.map_cons, zip_snd (Nat.succ.inj h)]
  | [], _ :: _, h => by cases h
  | _ :: _, [], h => by cases h
/-- sorted(x), whatever x is: where collecting x hands on values that read as alike data -/
theorem sorted_from {src : Value} {O : List Addr} {Good : List D → Prop} {Q : VK} (hu : X.A.units + 68 < cLine) (I : Inv X pins σ H s) (th : ThereO O H)
    (hcol : ∀ Q' : List Value → Shared → Prop, (∀ (s1 : Shared) (us : List Value) (vs : List V) (ds : List D), (∀ b o, s.heap.get? b = some o → s1.heap.get? b = some o) → s1.gens = s.gens → s1.os = s.os →
      Vals vs us → DqAll X.K (hid O H) vs ds → vs.length ≤ sizeLine → sortOk ds = true → Good ds → Q' us s1) → wpAny (model X.prog X.w) X.A.in1 (collect src) Q' X.xe s)
    (hq : ∀ ds v H', Good ds → Same H H' → Dq X.K (hid O H') v (.list (sortL ds)) → Q v H') : wpAny (model X.prog X.w) X.A (call (.builtin "sorted") [src]) (EP X pins σ Q) X.xe s := by
  refine call_function_entry_kw kind_sorted plain_sorted entry_sorted (args_sorted1 _) ?_
  unfold Builtin.«sorted»
  refine wpAny_bind (m := checkCount "sorted" 1 1 _) (wpAny_pure (wpAny_bind (hcol _ fun s1 us vs ds k1 g1 o1 rv hd hlen ok gd => ?_)))
  have e1 : vs.length = ds.length := dpAll_len hd
  have e2 : vs.length = us.length := rv.length
  have hzl : us.length ≤ sizeLine := by rw [← e2]; exact hlen
  unfold sortOk at ok
  simp only [Bool.and_eq_true, List.all_eq_true] at ok
  obtain ⟨⟨ok1, ok2⟩, ok3⟩ := ok
  have hal : AllAlike ds := fun d h d' h' => ok2 d h d' h'
  refine wpAny_bind (wpAny_newList ?_ hzl)
  have hoL : (s1.heap.push (seqObj "list" us.toArray 0)).get? s1.heap.objs.size = some (seqObj "list" us.toArray 0) := Heap.get?_push_size _ rfl
  generalize hh2 : s1.heap.push (seqObj "list" us.toArray 0) = h2 at hoL
  have hlt2 : ∀ b ob, s.heap.get? b = some ob → b ≠ s1.heap.objs.size ∧ b < h2.objs.size ∧ h2.get? b = some ob := fun b ob e => by
    have l1 := Heap.lt_size (k1 b ob e)
    subst hh2
    exact ⟨Nat.ne_of_lt l1, by rw [size_push'] <;> exact Nat.lt_succ_of_lt l1, Heap.get?_push_of_some _ (k1 b ob e)⟩
  have kp : ∀ b ob, s.heap.get? b = some ob → (PySem.W.sortingHeap h2 s1.heap.objs.size us).get? b = some ob := fun b ob e => PySem.W.sortingHeap_old (hlt2 b ob e).1 (hlt2 b ob e).2.2
  have I' : Inv X pins σ H { s with heap := PySem.W.sortingHeap h2 s1.heap.objs.size us } := I.kept (t' := s.toks) kp
  generalize hG : PySem.W.sortingHeap h2 s1.heap.objs.size us = hS at kp I'
  have tr : EachIs (Tri X.K (hid O H) s1.heap) us (vs.zip ds) := tri_of rv hd
  have er1 : EachIs (fun u d => ∃ as, Reads hS u d as) us ds := by
    have a := each_map2 (R := fun u d => ∃ as, Reads hS u d as) (fun p : V × D => p.2) (tr.mono fun u p t => Dp.reads I' p.2 p.1 u (dp_mono same_unhid t.dq).dp t.rel)
    rwa [zip_snd e1] at a
  have hu2 : ∀ d, d ∈ ds → X.A.in1.in1.units + d.depth < cLine := fun d h => by
    have := SeqAt.depth_of_shaped (ok1 d h)
    show X.A.units + 1 + 1 + d.depth < cLine
    omega
  have S : PySem.W.SortsAt X.prog X.w X.A.in1.in1 { s1 with heap := hS } (PySem.W.dataKind hS ds) us := by
    rw [Bool.or_eq_true] at ok3
    rcases ok3 with h | h
    · exact PySem.W.SortsAt.tups (s := { s1 with heap := hS }) er1 hal (fun d hd => by
        have q := List.all_eq_true.mp h d hd
        cases d <;> first | exact ⟨_, rfl⟩ | cases q) hu2
    · exact PySem.W.SortsAt.data (s := { s1 with heap := hS }) er1 hal (.inr fun d hd => by
        have q := List.all_eq_true.mp h d hd
        refine ⟨fun z => by subst z; simp [isTup, isNoneD] at q, fun xs z => by subst z; simp [isTup] at q⟩) hu2
  subst hG
  refine wpAny_bind (wpAny_holding (wpAny_call_entry_kw slot_list_sort ⟨_, hoL, rfl⟩ entry_list_sort ?body (args_list_sort _)))
  case body =>
  show wpAny (model X.prog X.w) X.A.in1.in1 (Builtin.«list.sort» ⟨[.ref s1.heap.objs.size], []⟩) _ _ _
  refine PySem.W.list_sort_vals (s := { s1 with heap := h2 }) hoL S hzl ?_
  refine ⟨_, rfl, wpAny_pure ⟨_, rfl, ?_⟩⟩
  generalize hκ : PySem.W.dataKind (PySem.W.sortingHeap h2 s1.heap.objs.size us) ds = κ
  have out : EachIs (Tri X.K (hid O H) s1.heap) (PySem.W.sortVals κ false us us) ((vs.zip ds).mergeSort (dataLe false fun p : V × D => p.2)) := by
    subst hκ
    refine PySem.W.sortVals_each (κ := PySem.W.dataKind _ ds) (fun p : V × D => keyToks p.2) tr (PySem.W.each_of_map (R := fun u d => (PySem.W.dataKind _ ds).keyOf u = some (keyToks d)) (fun p : V × D => p.2) ?_)
    rw [zip_snd e1]
    exact PySem.W.each_keys hal er1
  obtain ⟨b1, b2⟩ := tri_back out
  have e3 : ((vs.zip ds).mergeSort (dataLe false fun p : V × D => p.2)).map (·.2) = sortL ds := by
    have q := List.map_mergeSort (r := dataLe false fun p : V × D => p.2) (s := dataLe false (id : D → D)) (f := fun p : V × D => p.2) (l := vs.zip ds) (fun _ _ _ _ => rfl)
    rw [q, zip_snd e1] <;> rfl
  rw [e3] at b2
  obtain ⟨k, hk⟩ := PyProof.Rows.sortedHeap_at (out := (PySem.W.sortVals κ false us us).toArray) hoL
  have hlen2 : (((vs.zip ds).mergeSort (dataLe false fun p : V × D => p.2)).map (·.1)).length ≤ sizeLine := by
    rw [List.length_map, (List.mergeSort_perm _ _).length_eq, List.length_zip, ← e1, Nat.min_self]
    exact hlen
  generalize ((vs.zip ds).mergeSort (dataLe false fun p : V × D => p.2)).map (·.1) = ws at b1 b2 hlen2
  have hp : s.heap.get? s1.heap.objs.size = none := by
    cases q : s.heap.get? s1.heap.objs.size with
    | none => rfl
    | some o => exact absurd (Heap.lt_size (k1 _ o q)) (Nat.lt_irrefl _)
  have hn : H s1.heap.objs.size = none := (I.hok.kept k1).fresh (Nat.le_refl _)
  have kk : ∀ b ob, s.heap.get? b = some ob → (PyProof.Rows.sortedHeap h2 s1.heap.objs.size us (PySem.W.sortVals κ false us us).toArray).get? b = some ob := fun b ob e =>
    (PyProof.Rows.sortedHeap_old (hlt2 b ob e).1 (hlt2 b ob e).2.1).trans (hlt2 b ob e).2.2
  generalize PyProof.Rows.sortedHeap h2 s1.heap.objs.size us (PySem.W.sortVals κ false us us).toArray = h3 at hk kk
  have J := I.call (g' := s1.gens) (d' := s1.drawn) (t' := s1.toks) (ch := []) (Un.laidN (fs := frs X.stack) (ex := []) (o := .lst ws) kk hp hn) (I.hok.laidN kk hn ⟨hlen2, _, k, b1, hk⟩) (by rw [g1]; exact I.bare) (fun _ z => nomatch z)
  have e4 : ({ s1 with heap := h3 } : Shared) = { s with heap := h3, gens := s1.gens, drawn := s1.drawn, toks := s1.toks } := by
    cases s1
    cases s
    cases o1
    rfl
  rw [e4]
  exact ⟨.ref s1.heap.objs.size, _, J, rfl, hq ds _ _ gd (same_upd hn) (dp_newLst hn th b2)⟩
theorem b_sorted (hu : X.A.units + 68 < cLine) : CallR X (.builtin "sorted") (rC X.K (f1 sortD)) := by
  intro pins s σ H xs us Q I r ⟨O, ds, d, th, lk, vw, hf, hq⟩
  obtain ⟨v, e, rfl, vx, hf⟩ := vw1 vw hf
  obtain ⟨u, rfl, ru⟩ := vals1 r
  have go : ∀ (T : String) (a : Addr) (vs : List V) (es : List D) (its : List Value) (o : Obj) (n : Nat), T = "list" ∨ T = "tuple" → u = .ref a → Vals vs its → s.heap.get? a = some o → o.cls = .type T → o.data = .seq its.toArray n → vs.length ≤ sizeLine → DqAll X.K (hid O H) vs es → sortOk es = true → d = .list (sortL es) →
      wpAny (model X.prog X.w) X.A (call (.builtin "sorted") [u]) (EP X pins σ Q) X.xe s := fun T a vs es its o n hT eu rv ho hc hd hz ha ok ed => by
    subst eu
    refine sorted_from (Good := fun x => x = es) hu I th (fun Q' k => ?_) fun x v H' gx s' dq => hq v H' s' (by rw [ed, ← gx]; exact dq)
    refine wpAny_collect_seq a hT ho hc hd (fun h' kp => ?_) (by rw [List.size_toArray, ← rv.length]; exact hz)
    exact k _ _ vs es kp rfl rfl (by simpa using rv) ha hz ok rfl
  unfold sortD at hf
  split at hf
  · split at hf
    · rename_i ok
      cases hf
      obtain ⟨a, vs, rfl, hs, ha⟩ := vx.lst
      obtain ⟨its, rv, ⟨o, n, ho, hc, _, hd⟩, hz⟩ := I.list (.inl hs)
      exact go "list" a vs _ its o n (.inl rfl) ru rv ho hc hd hz ha ok rfl
    · cases hf
  · split at hf
    · rename_i ok
      cases hf
      obtain ⟨a, vs, rfl, hs, ha⟩ := vx.tup
      obtain ⟨its, rv, ⟨o, ho, hc, n, hd⟩, hz⟩ := I.tuple hs
      exact go "tuple" a vs _ its o n (.inr rfl) ru rv ho hc hd hz ha ok rfl
    · cases hf
  · cases hf
theorem hu68 {k : Nat} {A : Around} (h : Room k A) : A.units + 68 < cLine := by have := h.un; omega
end
end PL

set_option Elab.async false
set_option linter.all false
set_option maxRecDepth 100000
set_option maxHeartbeats 3900000
/-! PL5: set(xs), xs a list of tuples of ints of any length, at most 62 of them unlike. The walk goes by the kit's words for set.update's loop; what is told is what I need: which rows have been fed. -/
namespace L2
open PySem PySem.Spec
open PyProof.Rows
theorem nodup_len {α : Type} [DecidableEq α] (l m : List α) (hn : l.Nodup) (hs : ∀ x ∈ l, x ∈ m) : l.length ≤ m.length := by
  induction l generalizing m with
  | nil => exact Nat.zero_le _
  | cons a l ih =>
    have ha : a ∈ m := hs a List.mem_cons_self
    have h := ih (m.erase a) (List.nodup_cons.mp hn).2 fun y hy =>
      (List.mem_erase_of_ne fun e => (List.nodup_cons.mp hn).1 (by rw [← e]; exact hy)).2 (hs y (List.mem_cons_of_mem _ hy))
    have := List.length_pos_of_mem ha
    rw [List.length_erase_of_mem ha] at h
    rw [List.length_cons]
    omega
/-- the first heap's objects stand -/
abbrev Stands (h0 h : Heap) : Prop := ∀ b o, h0.get? b = some o → h.get? b = some o
/-- a row of tuples that stand in h0, few of them unlike -/
structure Rowed (P : Program) (w : World) (h0 : Heap) (ks : List (Addr × List Int)) : Prop where
  tup : ∀ p ∈ ks, IsT P w h0 p.2 p.1
  few : ∃ m : List (List Int), m.length ≤ 62 ∧ ∀ p ∈ ks, p.2 ∈ m
theorem Rowed.room {P : Program} {w : World} {h0 : Heap} {ks L : List (Addr × List Int)} {i : Nat} (r : Rowed P w h0 ks) (g : Got ks i L) (nd : (L.map Prod.snd).Nodup) : L.length + 1 < 64 := by
  obtain ⟨m, hm, hin⟩ := r.few
  have h := nodup_len (L.map Prod.snd) m nd fun k hk => by
    obtain ⟨p, hp, rfl⟩ := List.mem_map.mp hk
    exact hin p (List.mem_of_mem_take (g.sub p hp))
  rw [List.length_map] at h
  omega
/-- i rows of ks were fed to the set at S -/
def Fed (P : Program) (w : World) (ks : List (Addr × List Int)) (S : Addr) (i : Nat) (h : Heap) : Prop := ∃ L es ep t, SetTR P w h S L es ep t ∧ Got ks i L
theorem Fed.stay {P : Program} {w : World} {ks : List (Addr × List Int)} {S : Addr} {i : Nat} {h0 h h' : Heap} (f : Fed P w ks S i h) (r : Rowed P w h0 ks) (k : Stands h0 h') (hS : ∀ o, h.get? S = some o → h'.get? S = some o) : Fed P w ks S i h' := by
  obtain ⟨L, es, ep, t, R, g⟩ := f
  exact ⟨L, es, ep, t, R.keep hS fun p hp => isT_keep (r.tup p (List.mem_of_mem_take (g.sub p hp))) k, g⟩
section
variable {P : Program} {w : World} {A : Around} {E : Value → Shared → Prop} {s : Shared}
/-- one row more -/
theorem feed_one {ks : List (Addr × List Int)} {S : Addr} {i : Nat} {h0 : Heap} {p : Addr × List Int} {Q : Bool → Shared → Prop} (r : Rowed P w h0 ks) (f : Fed P w ks S i s.heap) (k : Stands h0 s.heap) (hS : h0.get? S = none) (hp : ks[i]? = some p) (hu : A.units < cLine)
    (h : ∀ (x : Bool) (h' : Heap) (tk : Nat), s.toks ≤ tk → (∀ b, b ≠ S → h'.get? b = s.heap.get? b) → Stands h0 h' → Fed P w ks S (i + 1) h' → Q x { s with heap := h', toks := tk }) : wpAny (model P w) A (setAdd S (.ref p.1)) Q E s := by
  obtain ⟨L, es, ep, t, R, g⟩ := f
  have hx := isT_keep (r.tup p (List.mem_of_getElem? hp)) k
  unfold setAdd
  refine wpAny_holding (wpAny_bind (wpAny_pyHash_tuple hu hx (add_at (s := { s with toks := s.toks + (p.2.length + 1) }) R hx hu (r.room g R.nd) fun x h' L' es' ep' t' same R' in1 in2 => ?_)))
  have st : Stands h0 h' := fun b o e => (same.2 b fun z => by rw [z, hS] at e; cases e).trans (k b o e)
  refine h x h' _ (Nat.le_add_right s.toks (p.2.length + 1)) same.2 st ⟨L', es', ep', t', R', ?_⟩
  by_cases c : p.2 ∈ L.map Prod.snd
  · rw [in1 c]; exact g.same hp c
  · exact g.more hp (in2 c)
/-- all rows, whatever is walked -/
theorem feed_all {I : Addr} {fp wr : List Addr} {G : Array GenState → Array GenState → Prop} {Pv : Nat → Value → Prop} {St : Nat → Shared → Prop} {ks : List (Addr × List Int)} {S : Addr} {h0 : Heap} {R : Result → Shared → Prop}
    (W : WalksS P w A.in1 I fp wr G ks.length Pv St) (hSf : S ∉ fp) (r : Rowed P w h0 ks) (hval : ∀ i v, Pv i v → ∃ p, ks[i]? = some p ∧ v = .ref p.1) (hS0 : h0.get? S = none) (hw0 : ∀ b ∈ wr, h0.get? b = none) (hu : A.in1.units < cLine) (left : Nat) :
    ∀ (i : Nat) (s : Shared), left + i = ks.length → St i s → Stands h0 s.heap → Fed P w ks S i s.heap →
      (∀ s', Moved (S :: wr) G s s' → Stands h0 s'.heap → Fed P w ks S ks.length s'.heap → R (.ok (.ret .none)) s') → codeAny (model P w) A (.builtin "set.update.loop" ⟨[.ref S, .ref I], []⟩) R s := by
  have out : ∀ {a b : Shared}, Moved wr G a b → Stands h0 a.heap → Stands h0 b.heap := fun m k b o e => m.heap b o (fun z => by rw [hw0 b z] at e; cases e) (k b o e)
  have own : ∀ {a b : Shared}, Moved wr G a b → ∀ o, a.heap.get? S = some o → b.heap.get? S = some o := fun m o e => m.heap S o (fun z => hSf (W.sub _ z)) e
  induction left with
  | zero =>
    intro i s e st k f hR
    obtain rfl : i = ks.length := by omega
    refine codeAny_builtin F.entry_set_update_loop ?_
    rw [Around.under_plainId F.plain_set_update_loop _]
    refine wpAny_bind (m := pyNext (.ref I)) (W.done s _ _ st fun s' m => ?_)
    refine wpAny_pure (hR s' (m.mono fun b => List.mem_cons_of_mem S) (out m k) (f.stay r (out m k) (own m)))
  | succ left ih =>
    intro i s e st k f hR
    refine codeAny_builtin F.entry_set_update_loop ?_
    rw [Around.under_plainId F.plain_set_update_loop _]
    refine wpAny_bind (m := pyNext (.ref I)) (W.item i s _ _ (by omega) st fun v s1 pv st1 m => ?_)
    obtain ⟨p, hp, rfl⟩ := hval i v pv
    refine wpAny_bind (m := holding [Value.ref p.1] (setAdd S (.ref p.1))) (wpAny_holding (feed_one r (f.stay r (out m k) (own m)) (out m k) hS0 hp hu fun _ h2 tk le same k2 f2 => ?_))
    have away : ∀ b, b ∈ fp → h2.get? b = s1.heap.get? b := fun b hb => same b fun z => hSf (z ▸ hb)
    refine wpAny_pure ⟨plainId_quiet F.plain_set_update_loop _, ih (i + 1) _ (by omega) (W.frame _ s1 _ _ st1 le fun b hb o q => (away b hb).trans q) k2 f2 fun s3 m3 => hR s3 (Moved.trans W.gtrans ((m.mono fun b => List.mem_cons_of_mem S).then_heap le fun b o hb q => ?_) m3)⟩
    exact (same b fun z => hb (by rw [z]; exact List.mem_cons_self)).trans q
/-- the set as it is born, and the heap that has it -/
abbrev born (w : World) : Obj := { cls := .type "set", dict := none, data := .set #[] 0 (.fresh 0 0 (!w.params.followText "set-order")) }
abbrev laid0 (w : World) (h : Heap) : Heap := h.push (born w)
theorem items_rows {items : Array Value} {ks : List (Addr × List Int)} (e : items.toList = ks.map fun p => Value.ref p.1) (i : Nat) (v : Value) (hv : items[i]? = some v) : ∃ p, ks[i]? = some p ∧ v = .ref p.1 := by
  rw [← Array.getElem?_toList, e, List.getElem?_map] at hv
  obtain ⟨p, e1, e2⟩ := Option.map_eq_some_iff.mp hv
  exact ⟨p, e1, e2.symm⟩
theorem above_none {h : Heap} {b : Addr} (hb : h.objs.size ≤ b) : h.get? b = none := by
  cases q : h.get? b with
  | none => rfl
  | some o => exact absurd (Heap.lt_size q) (Nat.not_lt.mpr hb)
/-- what the init leaves -/
def Filled (P : Program) (w : World) (ks : List (Addr × List Int)) (s : Shared) (r : Value) (s2 : Shared) : Prop := r = .none ∧ ∃ (h' : Heap) (tk : Nat), s2 = { s with heap := h', toks := tk } ∧ Fed P w ks s.heap.objs.size ks.length h' ∧ Stands s.heap h'
/-- the walk over the list, from the set just born -/
theorem fill_loop {l : Addr} {items : Array Value} {ks : List (Addr × List Int)} (B : Around) (hh : B.in1.handled = none) (hl : s.heap.IsList l items) (hit : items.toList = ks.map fun p => Value.ref p.1) (r : Rowed P w s.heap ks) (hu : B.in1.units < cLine) {R : Result → Shared → Prop}
    (hR : ∀ s2, Filled P w ks s .none s2 → R (.ok (.ret .none)) s2) :
    codeAny (model P w) B (.builtin "set.update.loop" ⟨[.ref s.heap.objs.size, .ref (laid0 w s.heap).objs.size], []⟩) R { s with heap := (laid0 w s.heap).push { cls := .type "list_iterator", data := .fields #[.ref l, .int 0 0] } } := by
  have hlt : l < s.heap.objs.size := by
    obtain ⟨o, ho, _⟩ := hl
    exact Heap.lt_size ho
  have sz : (laid0 w s.heap).objs.size = s.heap.objs.size + 1 := Heap.size_push ..
  have n : items.size = ks.length := by rw [← Array.length_toList, hit, List.length_map]
  have W := (Walks.list (prog := P) (w := w) hh (laid0 w s.heap).objs.size l (sz ▸ Nat.ne_of_lt (Nat.lt_succ_of_lt hlt)) items).toS
  rw [n] at W
  refine feed_all W (fun z => (List.mem_cons.mp z).elim (fun q => Nat.ne_of_lt (Nat.lt_succ_self _) (q.trans sz)) fun q => Nat.ne_of_gt hlt (List.mem_singleton.mp q)) r (fun i v => items_rows hit i v) (above_none (Nat.le_refl _)) (fun b hb => ?_) hu ks.length 0 _ (Nat.add_zero _)
    ⟨⟨_, Heap.get?_push_size _ rfl, rfl, rfl⟩, (hl.push (born w)).push _⟩ (fun b o e => Heap.get?_push_of_some _ (Heap.get?_push_of_some _ e)) ⟨[], #[], 0, _, setTR_fresh (Heap.get?_push_of_some _ (Heap.get?_push_size _ rfl)), Got.zero ks⟩ fun s2 m k f => ?_
  · rw [List.mem_singleton.mp hb, sz]
    exact above_none (Nat.le_succ _)
  · refine hR s2 ⟨rfl, s2.heap, s2.toks, ?_, f, k⟩
    have a := m.gens
    have b := m.drawn
    have c := m.os
    cases s2
    cases a
    cases b
    cases c
    rfl
/-- set(xs) -/
theorem call_set_many {l : Addr} {items : Array Value} (ks : List (Addr × List Int)) {Q : Value → Shared → Prop} (hh : A.handled = none) (hl : s.heap.IsList l items) (hit : items.toList = ks.map fun p => Value.ref p.1) (r : Rowed P w s.heap ks) (hu : A.units + 3 < cLine)
    (fin : ∀ (h' : Heap) (tk : Nat), Fed P w ks s.heap.objs.size ks.length h' → Stands s.heap h' → Q (.ref s.heap.objs.size) { s with heap := h', toks := tk }) : wpAny (model P w) A (call (.type "set") [.ref l]) Q E s := by
  obtain ⟨c, tl, hmro⟩ := F.called_set.mro
  have f1 := F.called_set.made
  have f2 := F.called_set.sub
  have f3 := F.called_set.notType
  have f4 := F.called_set.canCreate
  have f5 := F.typeCall_set_1 (.ref l)
  refine wpAny_call (codeAny_of_tree (show wpAny _ _ (callAny (.type "set") _) _ _ _ from wpAny_pure ⟨Code.quiet_builtin _ (by decide +kernel), codeAny_builtin F.entry_type_call ?_⟩))
  rw [Around.under_plain (weight_type_call_type "set" [.ref l] []) rfl]
  repeat any_goals (first | assumption | wp_step)
  refine codeAny_mono (code_set_led1 (.ref l) (E := E) (Q₁ := fun v s1 => v = .ref s.heap.objs.size ∧ s1 = { s with heap := laid0 w s.heap }) ⟨rfl, rfl⟩) fun r1 s1 h1 => ?_
  cases r1 with
  | error e => exact h1
  | ok f =>
    cases f with
    | ret v =>
      obtain ⟨rfl, rfl⟩ := h1
      have here : Shared.TypeIs { s with heap := laid0 w s.heap } (.ref s.heap.objs.size) "set" := ⟨born w, Heap.get?_push_size _ rfl, rfl⟩
      have f6 := F.called_set.init.lookup
      have f7 := F.called_set.init.bind (.ref s.heap.objs.size)
      repeat any_goals (first | assumption | wp_step)
      refine codeAny_mono (codeAny_call_builtin (R := wants (Filled P w ks s) E) F.called_set.init.plain F.entry_set_init (check_set_init_1 here ?_)) fun r2 s2 h2 => ?_
      · have f8 := F.sub_list_set
        have f9 := F.sub_list_frozenset
        have f10 : (Value.type "list" == Value.type "dict") = false := by decide
        have hp : (laid0 w s.heap).IsList l items := hl.push (born w)
        obtain ⟨⟨_, od, _, os⟩, look, k1, nl, k2⟩ := id hp
        cases k1
        cases k2
        unfold Builtin.«set.__init__» noKeywords Builtin.Frozenset.updateFrom
        generalize hI : pyIter = iter
        wp_walk
        subst hI
        refine wpAny_pyIter_list hp (wpAny_bind (wpAny_runValue (fill_loop _ (by simp [hh]) hl hit r ?_ fun s3 h3 => ?_)))
        · exact hu
        · exact wpAny_pure (wpAny_pure h3)
      · cases r2 with
        | error e => exact h2
        | ok g =>
          cases g with
          | ret u =>
            obtain ⟨rfl, h', tk, rfl, fed, st⟩ := h2
            repeat any_goals (first | assumption | wp_step)
            exact fin h' tk fed st
          | _ => exact h2.elim
    | _ => exact h1.elim
end
end L2

set_option Elab.async false
set_option linter.all false
set_option maxRecDepth 100000
set_option maxHeartbeats 4000000
/-! PL6: sorted(set(..)) as one rule. -/
namespace PL
open PySem PySem.Calls PyProof.Rows L2
open PySem.W (alike AllAlike EachIs dataLe keyToks keyToksAll)
theorem dataLe_tot : PySem.W.TotalLe (dataLe false (id : D → D)) := PySem.W.sortLe_total _ _ _
theorem sortL_perm (ds : List D) : (sortL ds).Perm ds := List.mergeSort_perm _ _
/-- the order of the items does not matter where equal ranks are equal data -/
theorem sortL_eq {l m : List D} (h : l.Perm m) (inj : ∀ a ∈ l, ∀ b ∈ l, keyToks a = keyToks b → a = b) : sortL l = sortL m := by
  unfold sortL
  refine List.Perm.eq_of_pairwise (le := fun a b => dataLe false (id : D → D) a b = true) (fun a b ha hb h1 h2 => ?_) (PySem.W.sort_pairwise dataLe_tot l) (PySem.W.sort_pairwise dataLe_tot m) ((List.mergeSort_perm l _).trans (h.trans (List.mergeSort_perm m _).symm))
  have ha' : a ∈ l := (List.mergeSort_perm l _).mem_iff.mp ha
  have hb' : b ∈ l := h.mem_iff.mpr ((List.mergeSort_perm m _).mem_iff.mp hb)
  refine inj a ha' b hb' ?_
  unfold dataLe PySem.W.sortLe at h1 h2
  simp only [cond_false, Bool.not_eq_true', id] at h1 h2
  exact (PyProof.Rows.listOrd PyProof.Rows.itemOrd).total _ _ h2 h1
def encT (k : List Int) : D := .tuple (k.map .int)
theorem toks_ints : ∀ {k m : List Int}, keyToksAll (k.map PyData.int) = keyToksAll (m.map PyData.int) → k = m
  | [], [], _ => rfl
  | [], y :: m, h => by
    rw [List.map_nil, List.map_cons, keyToksAll, keyToksAll] at h
    have := List.cons.inj h
    simp at this
  | x :: k, [], h => by
    rw [List.map_nil, List.map_cons, keyToksAll, keyToksAll] at h
    have := List.cons.inj h
    simp at this
  | x :: k, y :: m, h => by
    rw [List.map_cons, List.map_cons, keyToksAll, keyToksAll, keyToks, keyToks] at h
    have h1 := (List.cons.inj h).2
    rw [List.singleton_append, List.singleton_append] at h1
    have h2 := List.cons.inj h1
    rw [Sum.inl.inj h2.1, toks_ints h2.2]
theorem encT_inj {k m : List Int} (h : keyToks (encT k) = keyToks (encT m)) : k = m := by
  unfold encT at h
  rw [keyToks, keyToks] at h
  exact toks_ints h
theorem alike_ints : ∀ (k m : List Int), PySem.W.alikeAll (k.map PyData.int) (m.map PyData.int) = true
  | [], _ => by cases ‹List Int› <;> simp [PySem.W.alikeAll]
  | x :: k, [] => by simp [PySem.W.alikeAll]
  | x :: k, y :: m => by
    rw [List.map_cons, List.map_cons, PySem.W.alikeAll, alike_ints k m]
    simp [PySem.W.alike]
theorem alike_encT (k m : List Int) : alike (encT k) (encT m) = true := by
  unfold encT
  rw [PySem.W.alike]
  exact alike_ints k m
theorem canLay_ints : ∀ k : List Int, PyData.canLayAll0 (k.map PyData.int) = true
  | [] => by simp [PyData.canLayAll0]
  | x :: k => by rw [List.map_cons, PyData.canLayAll0, canLay_ints k]; simp [PyData.canLay0]
theorem depth_ints : ∀ k : List Int, PyData.depthAll (k.map PyData.int) ≤ 1
  | [] => by simp [PyData.depthAll]
  | x :: k => by
    rw [List.map_cons, PyData.depthAll]
    have := depth_ints k
    have h2 : PyData.depth (.int x) ≤ 1 := by simp [PyData.depth]
    omega
theorem depth_encT (k : List Int) : PyData.depth (encT k) ≤ 2 := by
  unfold encT
  rw [PyData.depth]
  have := depth_ints k
  omega
def tupInts : List D → Option (List (List Int))
  | [] => some []
  | .tuple xs :: ds => (intsOf xs).bind fun k => (tupInts ds).map fun r => k :: r
  | _ :: _ => none
theorem tupInts_some : ∀ {ds : List D} {ks : List (List Int)}, tupInts ds = some ks → ds = ks.map encT
  | [], ks, h => by cases h; rfl
  | .tuple xs :: ds, ks, h => by
    obtain ⟨k, e1, h⟩ := Option.bind_eq_some_iff.mp (show (intsOf xs).bind (fun k => (tupInts ds).map fun r => k :: r) = some ks from h)
    obtain ⟨r, e2, e3⟩ := Option.map_eq_some_iff.mp h
    subst e3
    rw [tupInts_some e2, intsOf_some e1]; rfl
  | .none :: _, _, h => by cases h
  | .bool _ :: _, _, h => by cases h
  | .int _ :: _, _, h => by cases h
  | .str _ :: _, _, h => by cases h
  | .list _ :: _, _, h => by cases h
  | .dict _ :: _, _, h => by cases h
@[simp] theorem tupInts_map (ks : List (List Int)) : tupInts (ks.map encT) = some ks := by
  induction ks with
  | nil => rfl
  | cons k ks ih =>
    rw [List.map_cons]
    show (intsOf (k.map .int)).bind (fun k => (tupInts (ks.map encT)).map fun r => k :: r) = _
    rw [intsOf_map, ih] <;> rfl
/-- each one once -/
def once : List (List Int) → List (List Int)
  | [] => []
  | k :: ks => if k ∈ once ks then once ks else k :: once ks
theorem mem_once : ∀ {ks : List (List Int)} {k : List Int}, k ∈ once ks ↔ k ∈ ks
  | [], _ => Iff.rfl
  | x :: ks, k => by
    unfold once
    split
    · rename_i h
      rw [mem_once, List.mem_cons]
      constructor
      · exact .inr
      · rintro (e | e)
        · rw [e]; exact mem_once.mp h
        · exact e
    · rw [List.mem_cons, List.mem_cons, mem_once]
theorem nodup_once : ∀ ks : List (List Int), (once ks).Nodup
  | [] => List.nodup_nil
  | x :: ks => by
    unfold once
    split
    · exact nodup_once ks
    · rename_i h; exact List.nodup_cons.mpr ⟨h, nodup_once ks⟩
def ssetD : D → Option D
  | .list ds => (tupInts ds).bind fun ks => if (once ks).length ≤ 62 then some (.list (sortL ((once ks).map encT))) else none
  | _ => none
/-- the tuples' addresses -/
theorem tups_at {K : PySem.W.Frag} {F : Hp} : ∀ {vs : List V} {ks : List (List Int)}, DqAll K F vs (ks.map encT) → ∃ ps : List (Addr × List Int), vs = ps.map (fun p => V.ref p.1) ∧ ps.map (·.2) = ks ∧ ∀ p ∈ ps, SqT K F p.1 (p.2.map V.int)
  | _, [], .nil => ⟨[], rfl, rfl, fun p h => absurd h (by simp)⟩
  | _, k :: ks, .cons d r => by
    obtain ⟨a, vs, rfl, hs, ha⟩ := Dq.tup' d
    rw [dpAll_ints ha] at hs
    obtain ⟨ps, e1, e2, e3⟩ := tups_at r
    refine ⟨(a, k) :: ps, by rw [List.map_cons, e1], by rw [List.map_cons, e2], fun p hp => ?_⟩
    rcases List.mem_cons.mp hp with z | z
    · subst z; exact hs
    · exact e3 p z
section
variable {X : Cx}
/-- sorted(a), a set of tuples of ints -/
theorem sorted_set {pins : List (Addr × Obj)} {σ : L2.St} {H : Hp} {s : Shared} {a : Addr} {O : List Addr} {L : List (Addr × List Int)} {Q : VK} (hu : X.A.units + 68 < cLine) (hc : X.calm = true) (I : Inv X pins σ H s) (th : ThereO O H) (ha : H a = some (SetTO X.prog X.w a L)) (hL : ∀ p ∈ L, SqT X.K (hid O H) p.1 (p.2.map V.int))
    (nd : (L.map (·.2)).Nodup) (few : L.length < 64) (hq : ∀ v H', Same H H' → Dq X.K (hid O H') v (.list (sortL ((L.map (·.2)).map encT))) → Q v H') : wpAny (model X.prog X.w) X.A (call (.builtin "sorted") [.ref a]) (EP X pins σ Q) X.xe s := by
  obtain ⟨es, ep, t, R⟩ := SetT0.full (I.hok a _ ha).1 fun p hp => I.isT (same_seqT same_unhid (hL p hp))
  obtain ⟨ob, look, ex, dat⟩ := R.ob
  have rows : es.toList.map Prod.snd = L.map fun q => Value.ref q.1 := (congrArg (List.map Prod.snd) R.rows).trans (by unfold rowsOf; rw [List.map_map]; rfl)
  refine sorted_from (Good := fun ds => sortL ds = sortL ((L.map (·.2)).map encT)) hu I th (fun Q' go => ?_) fun ds v H' e s' dq => hq v H' s' (by rw [← e]; exact dq)
  refine collect_set (A := X.A.in1) (I.ok.hd hc) ⟨ob, look, ex.1, dat⟩ R.fits (by have := R.size; unfold scanBound; omega) R.tab.ris R.led fun s1 us k1 _ g1 o1 pm => ?_
  rw [rows] at pm
  obtain ⟨M, pM, rfl⟩ := L2.perm_lift (fun q : Addr × List Int => Value.ref q.1) pm L rfl
  have rel : ∀ N : List (Addr × List Int), Vals (N.map fun q => V.ref q.1) (N.map fun q => Value.ref q.1) := fun N => by
    induction N with
    | nil => exact .nil
    | cons q N ih => exact .cons rfl ih
  have red : ∀ N : List (Addr × List Int), (∀ p ∈ N, SqT X.K (hid O H) p.1 (p.2.map V.int)) → DqAll X.K (hid O H) (N.map fun q => V.ref q.1) ((N.map (·.2)).map encT) := fun N => by
    induction N with
    | nil => exact fun _ => .nil
    | cons q N ih => exact fun h => .cons (.tup (h q List.mem_cons_self) (dpAll_of_ints q.2)) (ih fun p hp => h p (List.mem_cons_of_mem _ hp))
  have isT : ∀ d ∈ (M.map (·.2)).map encT, ∃ k, d = encT k := fun d h => by
    obtain ⟨k, _, e⟩ := List.mem_map.mp h
    exact ⟨k, e.symm⟩
  refine go s1 _ _ _ k1 g1 o1 (rel M) (red M fun p hp => hL p (pM.mem_iff.mp hp)) (by rw [List.length_map, pM.length_eq, sizeLine_eq]; omega) ?_ ?_
  · unfold sortOk
    simp only [Bool.and_eq_true, List.all_eq_true, Bool.or_eq_true]
    refine ⟨⟨fun d hd => ?_, fun d hd d' hd' => ?_⟩, .inl fun d hd => ?_⟩
    · obtain ⟨k, rfl⟩ := isT d hd
      unfold okD SeqAt.shaped
      have h2 := depth_encT k
      rw [show PyData.canLay0 (encT k) = true by unfold encT; rw [PyData.canLay0]; exact canLay_ints k, decide_eq_true (by omega)]
      rfl
    · obtain ⟨k, rfl⟩ := isT d hd
      obtain ⟨m, rfl⟩ := isT d' hd'
      exact alike_encT k m
    · obtain ⟨k, rfl⟩ := isT d hd
      rfl
  · refine sortL_eq ((pM.map (·.2)).map encT) fun x hx y hy e => ?_
    obtain ⟨k, rfl⟩ := isT x hx
    obtain ⟨m, rfl⟩ := isT y hy
    rw [encT_inj e]
end
section
variable {X : Cx}
/-- the keys of the set are the keys that were given, each once -/
theorem keys_once {ps L : List (Addr × List Int)} (nd : (L.map (·.2)).Nodup) (g : Got ps ps.length L) : (L.map (·.2)).Perm (once (ps.map (·.2))) := by
  refine (List.perm_ext_iff_of_nodup nd (nodup_once _)).mpr fun k => ?_
  rw [mem_once]
  constructor
  · intro h
    obtain ⟨p, hp, e⟩ := List.mem_map.mp h
    exact List.mem_map.mpr ⟨p, List.mem_of_mem_take (g.sub p hp), e⟩
  · intro h
    obtain ⟨p, hp, e⟩ := List.mem_map.mp h
    rw [← e]
    exact g.all p (by rw [List.take_length]; exact hp)
theorem pu_sset {a : Expr} {ga : EF} {p p2 q pos : Pos} {x y : Str} (hc : X.calm = true) (hu : X.A.units + 68 < cLine) (hg : Gl X x) (hm : X.mg x = none) (hv : bootBuiltins x = some (.builtin "sorted")) (hg2 : Gl X y) (hm2 : X.mg y = none) (hv2 : bootBuiltins y = some (.type "set")) (ha : PuE X a ga)
    (hx : x ≠ "__name__" := by decide) (hxd : (x == ("__debug__" : Str)) = false := by decide) (hy : y ≠ "__name__" := by decide) (hyd : (y == ("__debug__" : Str)) = false := by decide)
    (na : starEach [a] X.env = (false, eval a X.env) :: starEach [] X.env := by rfl) : PuE X (.Call (.Name x p) [.Call (.Name y p2) [a] [] q] [] pos) (eUn ssetD ga) := by
  refine PE.conv (t := fun σ H Q => ∃ O ρ d, EnvR X.K O H ρ σ ∧ eUn ssetD ga ρ = some d ∧ ∀ v H', Same H H' → Dq X.K (hid O H') v d → Q v H') ⟨fun pins s σ H Q I h => ?_⟩ fun σ H Q lk ⟨O, ρ, d, er, hg, hq⟩ => ⟨O, ρ, d, er, hg, fun v H' s dp l => hq v H' s l dp⟩
  obtain ⟨O, ρ, d, er, hgd, hq⟩ := h
  obtain ⟨da, e1, e2⟩ := Option.bind_eq_some_iff.mp hgd
  refine Call_ (ld_blt I hg hm hv ?_ hx hxd)
  refine PyProof.Rows.callWith_builtin1 (PyProof.Rows.args_cons ?_ rfl) rfl rfl
  refine Call_ (ld_blt I hg2 hm2 hv2 ?_ hy hyd)
  refine PyProof.Rows.callWith_type1 (PyProof.Rows.args_cons (thn (ha.run pins s σ H (fun v H1 => Same H H1 ∧ LenOk X.K H1 ∧ Dq X.K (hid O H1) v da) I ⟨O, ρ, da, er, e1, fun v H1 s1 l1 v1 => ⟨s1, l1, v1⟩⟩) fun v s1 ⟨x, H1, I1, r1, sm, l1, dv⟩ => PyProof.Rows.args_nil ?_) na) na rfl
  unfold ssetD at e2
  split at e2
  case h_2 => cases e2
  obtain ⟨ks, e3, e4⟩ := Option.bind_eq_some_iff.mp e2
  obtain rfl := tupInts_some e3
  split at e4
  case isFalse => cases e4
  rename_i hk62
  cases e4
  obtain ⟨l, vs, rfl, hl, hvs⟩ := dv.lst'
  obtain ⟨ps, rfl, e5, hps⟩ := tups_at hvs
  cases r1
  obtain ⟨its, rv, pl, hz⟩ := I1.list (.inl (same_rd same_unhid hl))
  have th : ThereO O H1 := ThereO.mono sm er.there
  have hn : H1 s1.heap.objs.size = none := I1.hok.fresh (Nat.le_refl _)
  refine call_set_many (P := X.prog) (w := X.w) ps (I1.ok.hd hc) pl.isList (by simpa using refs_of_vals rv) ⟨fun p hp => I1.isT (same_seqT same_unhid (hps p hp)), once ks, hk62, fun p hp => mem_once.mpr (by rw [← e5]; exact List.mem_map.mpr ⟨p, hp, rfl⟩)⟩ (by omega) fun h' tk ⟨L, es, ep, t, R, g⟩ k => ?_
  have I2 := I1.laid (t' := tk) k (Nat.le_refl _) (setTO_new (H := upd H1 s1.heap.objs.size (SetTO X.prog X.w s1.heap.objs.size L)) R.t0)
  have s2 : Same H1 (upd H1 s1.heap.objs.size (SetTO X.prog X.w s1.heap.objs.size L)) := same_upd hn
  refine PyProof.Rows.args_nil ?_
  have pk : (L.map (·.2)).Perm (once ks) := by rw [← e5]; exact keys_once R.nd g
  refine sorted_set (O := O) (L := L) hu hc I2 (th.mono s2) upd_same (fun p hp => ?_) R.nd ?_ fun v H3 s3 dp => ?_
  · exact same_seqT (same_hid s2) (hps p (List.mem_of_mem_take (g.sub p hp)))
  · have := pk.length_eq
    rw [List.length_map] at this
    omega
  · refine hq v H3 (sm.trans (s2.trans s3)) ?_
    · have ek : sortL ((L.map (·.2)).map encT) = sortL ((once ks).map encT) := sortL_eq (pk.map encT) fun a ha b hb e => by
        obtain ⟨k1, _, rfl⟩ := List.mem_map.mp ha
        obtain ⟨k2, _, rfl⟩ := List.mem_map.mp hb
        rw [encT_inj e]
      rw [← ek]
      exact dp
end
end PL

set_option Elab.async false
set_option linter.all false
set_option maxRecDepth 100000
set_option maxHeartbeats 1000000
/-! PL7: the head: the fragment without its lists, so that the script is a list that the frame tracks. -/
namespace PL
open PySem PySem.Calls PyProof.Rows L2
open PySem.W (Frag)
def lstO (o : Obj) : Bool := match o.data with
  | .seq _ _ => o.cls == Value.type "list"
  | _ => false
def keepK (K : Frag) (b : Addr) : Bool := match K.lookup b with
  | some o => !lstO o
  | none => false
/-- the fragment, its lists left out -/
def noLst (K : Frag) : Frag := K.filter fun p => keepK K p.1
theorem lookup_filter {α β : Type} [BEq α] [LawfulBEq α] (q : α → Bool) : ∀ (l : List (α × β)) (b : α), (l.filter fun p => q p.1).lookup b = if q b = true then l.lookup b else none
  | [], b => by simp
  | (a, o) :: l, b => by
    rw [List.filter_cons]
    by_cases e : (b == a) = true
    · obtain rfl := eq_of_beq e
      by_cases h : q b = true
      · rw [if_pos (by exact h), if_pos h, List.lookup_cons, List.lookup_cons, e]
      · rw [if_neg (by exact h), if_neg h, lookup_filter q l b, if_neg h]
    · have e' : (b == a) = false := by simpa using e
      by_cases h : q a = true
      · rw [if_pos (by exact h), List.lookup_cons, e', List.lookup_cons, e', lookup_filter q l b]
      · rw [if_neg (by exact h), List.lookup_cons, e', lookup_filter q l b]
theorem noLst_in {K : Frag} {h : Heap} (X : K.In h) : (noLst K).In h := fun a o e => by
  unfold noLst at e
  rw [lookup_filter (keepK K) K a] at e
  split at e
  · exact X a o e
  · cases e
theorem noLst_at {K : Frag} {a : Addr} {o : Obj} (e : K.lookup a = some o) (n : lstO o = false) : (noLst K).lookup a = some o := by
  unfold noLst
  rw [lookup_filter (keepK K) K a, if_pos (by unfold keepK; rw [e]; show (!lstO o) = true; rw [n]; rfl), e]
theorem noLst_no {K : Frag} {a : Addr} {o : Obj} (e : (noLst K).lookup a = some o) : lstO o = false := by
  unfold noLst at e
  rw [lookup_filter (keepK K) K a] at e
  split at e
  · rename_i h
    unfold keepK at h
    rw [e] at h
    simpa using h
  · cases e
theorem noLst_code {K : Frag} {cd : Value} {q : Str} (e : PySem.W.codeIn K cd q = true) : PySem.W.codeIn (noLst K) cd q = true := by
  unfold PySem.W.codeIn at e ⊢
  split at e
  · split at e
    · rename_i h
      rw [noLst_at h rfl]
      exact e
    · cases e
  · cases e
/-- a def without defaults stands in the fragment without lists, too -/
theorem noLst_fun {K : Frag} {x qual : Str} {params : Arguments} {body : List Stmt} {scope : Scope} {f : Addr} {fd : FuncData} (F : FunD K x qual params body scope [] [] f fd) : FunD (noLst K) x qual params body scope [] [] f fd := by
  obtain ⟨oc, od, dV, kV, doc, pm, an, cdv, ct, osl, e, lk, hc, hd, hk⟩ := F.ex
  have lk' := noLst_at lk rfl
  refine ⟨⟨oc, od, dV, kV, doc, pm, an, cdv, ct, osl, e, lk', noLst_code hc, ?_, .inl rfl⟩, ?_⟩
  · rcases hd with ⟨_, e⟩ | ⟨e, _⟩
    · exact .inl ⟨rfl, e⟩
    · exact absurd rfl e
  · unfold PySem.W.keepIn
    simp only [lk']
/-- in it the script is tracked -/
theorem noLst_sq {K : Frag} {H : Hp} {a : Addr} {xs : List V} (h : SqL (noLst K) H a xs) : Rd H a (.lst xs) := by
  rcases h with h | ⟨o, its, n, e, hc, _, hd, _⟩
  · exact h
  · have q := noLst_no e
    unfold lstO at q
    rw [hd] at q
    simp only [hc, beq_self_eq_true] at q
    cases q
theorem law_D {K : Frag} {m : List D → Option D} (hm : ∀ ns : List Int, ns.length ≤ 63 → m [.list (ns.map PyData.int)] = some (.bool true)) (H : Hp) (a : Addr) (ns : List Int) (hl : ns.length ≤ 63) (h : Rd H a (.lst (ns.map V.int))) :
    SpD K m [.ref a] H (fun v _ => v = .bl true) fun _ _ _ => False := by
  refine ⟨[], [.list (ns.map PyData.int)], .bool true, fun l h => absurd h (by simp), .cons (.lst ?_ (dpAll_of_ints ns)) .nil, hm ns hl, fun v H' _ h => ?_⟩
  · have e : hid [] H = H := funext fun x => hid_out (by simp)
    rw [e]; exact h
  · cases h; rfl
end PL

set_option Elab.async false
set_option linter.all false
set_option maxRecDepth 100000
set_option maxHeartbeats 1000000
/-! PM: the mirrors' operations on typed data; loops and comprehensions with an invariant. -/
namespace PL
open PySem
open PySem.W (Datum DatumOrd Tup listLt dataLe dataLt)
/-- typed data that the mirrors' == and in take -/
class Enc (α : Type) [DecidableEq α] extends DatumOrd α where
  lay : ∀ a, PyData.canLay0 (toD a) = true
  low : depth ≤ 60
abbrev toD {α : Type} [DecidableEq α] [Datum α] (a : α) : D := Datum.toD a
instance : Enc Int where
  lay _ := rfl
  low := by decide
section
variable {α β : Type} [DecidableEq α] [Enc α] [DecidableEq β] [Enc β]
theorem layAll : ∀ xs : List α, PyData.canLayAll0 (xs.map toD) = true
  | [] => rfl
  | x :: xs => by
    rw [List.map_cons, PyData.canLayAll0, layAll xs]
    show (PyData.canLay0 (Datum.toD x) && true) = true
    rw [Enc.lay x]; rfl
theorem ok_toD (a : α) : okD (toD a) = true := by
  have h1 : PyData.canLay0 (toD a) = true := Enc.lay a
  have h2 : (toD a).depth ≤ Datum.depth α := Datum.depth_le a
  have h3 : Datum.depth α ≤ 60 := Enc.low
  unfold okD SeqAt.shaped
  rw [h1, decide_eq_true (by omega)]; rfl
theorem ok_tup (xs : List α) : okD (.tuple (xs.map toD)) = true := by
  have h1 : PyData.canLay0 (.tuple (xs.map toD)) = true := by rw [PyData.canLay0]; exact layAll xs
  have h2 : (PyData.tuple (xs.map toD)).depth ≤ Datum.depth α + 1 := by rw [PyData.depth]; exact Nat.succ_le_succ (PySem.W.depthAll_map xs)
  have h3 : Datum.depth α ≤ 60 := Enc.low
  unfold okD SeqAt.shaped
  rw [h1, decide_eq_true (by omega)]; rfl
theorem ok_lst (xs : List α) : okD (.list (xs.map toD)) = true := by
  have h1 : PyData.canLay0 (.list (xs.map toD)) = true := by rw [PyData.canLay0]; exact layAll xs
  have h2 : (PyData.list (xs.map toD)).depth ≤ Datum.depth α + 1 := by rw [PyData.depth]; exact Nat.succ_le_succ (PySem.W.depthAll_map xs)
  have h3 : Datum.depth α ≤ 60 := Enc.low
  unfold okD SeqAt.shaped
  rw [h1, decide_eq_true (by omega)]; rfl
theorem eq_D (a b : α) : eqD (toD a) (toD b) = some (.bool (decide (a = b))) := by
  unfold eqD
  rw [if_pos ⟨ok_toD a, ok_toD b⟩]
  show some (PyData.bool (PyData.eqv (Datum.toD a) (Datum.toD b))) = _
  rw [Datum.eqv]
theorem ne_D (a b : α) : neD (toD a) (toD b) = some (.bool (!decide (a = b))) := by
  unfold neD
  rw [if_pos ⟨ok_toD a, ok_toD b⟩]
  show some (PyData.bool (!PyData.eqv (Datum.toD a) (Datum.toD b))) = _
  rw [Datum.eqv]
def has {α : Type} [DecidableEq α] (x : α) (xs : List α) : Bool := xs.any fun z => decide (z = x)
theorem has_iff {α : Type} [DecidableEq α] {x : α} {xs : List α} : has x xs = true ↔ x ∈ xs := by unfold has; simp
theorem any_has (x : α) : ∀ xs : List α, ((xs.map toD).any fun z => PyData.eqv z (toD x)) = has x xs
  | [] => rfl
  | y :: ys => by
    rw [List.map_cons, List.any_cons, any_has x ys]
    show (PyData.eqv (Datum.toD y) (Datum.toD x) || _) = _
    rw [Datum.eqv]; rfl
theorem mem_T (x : α) (xs : List α) : memD (toD x) (.tuple (xs.map toD)) = some (has x xs) := by
  show (if okD (toD x) = true ∧ okD (.tuple (xs.map toD)) = true then some ((xs.map toD).any fun z => PyData.eqv z (toD x)) else none) = _
  rw [if_pos ⟨ok_toD x, ok_tup xs⟩, any_has]
theorem mem_L (x : α) (xs : List α) : memD (toD x) (.list (xs.map toD)) = some (has x xs) := by
  show (if okD (toD x) = true ∧ okD (.list (xs.map toD)) = true then some ((xs.map toD).any fun z => PyData.eqv z (toD x)) else none) = _
  rw [if_pos ⟨ok_toD x, ok_lst xs⟩, any_has]
end
instance : Enc (Int × Int) where
  lay p := rfl
  low := by decide
instance : Enc (Tup Int) where
  lay t := by
    show PyData.canLay0 (.tuple (t.items.map toD)) = true
    rw [PyData.canLay0]; exact layAll t.items
  low := by decide
instance : Enc (Tup (Tup Int)) where
  lay t := by
    show PyData.canLay0 (.tuple (t.items.map toD)) = true
    rw [PyData.canLay0]; exact layAll t.items
  low := by decide
section
variable {α : Type} [DecidableEq α] [Enc α]
def leO (a b : α) : Bool := !DatumOrd.lt b a
def srt (xs : List α) : List α := xs.mergeSort leO
theorem dataLe_toD (a b : α) : dataLe false (id : D → D) (toD a) (toD b) = leO a b := by
  unfold leO
  rw [← DatumOrd.lt_eq b a]
  rfl
theorem leO_tot : PySem.W.TotalLe (leO : α → α → Bool) where
  trans a b c h1 h2 := by
    rw [← dataLe_toD] at h1 h2 ⊢
    exact dataLe_tot.trans _ _ _ h1 h2
  total a b := by
    rw [← dataLe_toD, ← dataLe_toD]
    exact dataLe_tot.total _ _
theorem leO_anti {a b : α} (h1 : leO a b = true) (h2 : leO b a = true) : a = b := by
  rw [← dataLe_toD] at h1 h2
  unfold dataLe PySem.W.sortLe at h1 h2
  simp only [cond_false, Bool.not_eq_true', id] at h1 h2
  have e : PySem.W.keyToks (toD a) = PySem.W.keyToks (toD b) := (PyProof.Rows.listOrd PyProof.Rows.itemOrd).total _ _ h2 h1
  have e1 : dataLt (toD a) (toD b) = false := h2
  by_cases hab : a = b
  · exact hab
  · have q := (PySem.W.toks_eqv (toD a) (toD b) (DatumOrd.alike a b)).2 (by
      show PyData.eqv (Datum.toD a) (Datum.toD b) = false
      rw [Datum.eqv]; exact decide_eq_false hab) [.inl 0] [.inl 1]
    rw [e] at q
    have z : ∀ k : List (Int ⊕ List Nat), PyProof.Rows.lexLt PyProof.Rows.itemOrd (k ++ [.inl 0]) (k ++ [.inl 1]) = true := fun k => by
      induction k with
      | nil => decide
      | cons x k ih => rw [List.cons_append, List.cons_append, PyProof.Rows.lex_self]; exact ih
    rw [z, PyProof.Rows.lex_irrefl] at q
    cases q
theorem sortL_map (xs : List α) : sortL (xs.map toD) = (srt xs).map toD := by
  unfold sortL srt
  exact (List.map_mergeSort (r := leO) (s := dataLe false (id : D → D)) (f := toD) (l := xs) fun a _ b _ => (dataLe_toD a b).symm).symm
theorem srt_perm (xs : List α) : (srt xs).Perm xs := List.mergeSort_perm _ _
theorem srt_pw (xs : List α) : (srt xs).Pairwise fun a b => leO a b = true := PySem.W.sort_pairwise leO_tot xs
theorem sortOk_map (xs : List α) (ht : (∀ a : α, isTup (toD a) = true) ∨ ∀ a : α, isTup (toD a) = false) : sortOk (xs.map toD) = true := by
  unfold sortOk
  simp only [Bool.and_eq_true, List.all_eq_true, List.mem_map, forall_exists_index, and_imp, forall_apply_eq_imp_iff₂, Bool.or_eq_true]
  refine ⟨⟨fun a _ => ok_toD a, fun a _ b _ => DatumOrd.alike a b⟩, ?_⟩
  rcases ht with ht | ht
  · exact .inl fun a _ => ht a
  · refine .inr fun a _ => ⟨by rw [ht a]; rfl, ?_⟩
    have := DatumOrd.notNone a
    show (!isNoneD (toD a)) = true
    cases h : toD a <;> first | rfl | exact absurd h this
theorem sort_DL (xs : List α) (ht : (∀ a : α, isTup (toD a) = true) ∨ ∀ a : α, isTup (toD a) = false) : sortD (.list (xs.map toD)) = some (.list ((srt xs).map toD)) := by
  show (if sortOk (xs.map toD) = true then some (PyData.list (sortL (xs.map toD))) else none) = _
  rw [if_pos (sortOk_map xs ht), sortL_map]
theorem sort_DT (xs : List α) (ht : (∀ a : α, isTup (toD a) = true) ∨ ∀ a : α, isTup (toD a) = false) : sortD (.tuple (xs.map toD)) = some (.list ((srt xs).map toD)) := by
  show (if sortOk (xs.map toD) = true then some (PyData.list (sortL (xs.map toD))) else none) = _
  rw [if_pos (sortOk_map xs ht), sortL_map]
end
/-! ### loops -/
section
variable {α β : Type} {gg : GF} {S : SF} {t : TF} {g : EF}
theorem compD_map (e : α → D) (f : α → D) (p : α → Bool) {ρ : Env} : ∀ (xs : List α), (∀ x ∈ xs, ∃ ρ1, gg (e x) ρ = some ρ1 ∧ t ρ1 = some (p x) ∧ (p x = true → g ρ1 = some (f x))) → compD gg t g ρ (xs.map e) = some ((xs.filter p).map f)
  | [], _ => rfl
  | x :: xs, h => by
    obtain ⟨ρ1, e1, e2, e3⟩ := h x List.mem_cons_self
    have ih := compD_map e f p xs fun y hy => h y (List.mem_cons_of_mem _ hy)
    rw [List.map_cons, compD, e1, Option.bind_some, e2, Option.bind_some, List.filter_cons]
    by_cases hp : p x = true
    · rw [if_pos hp, if_pos hp, e3 hp, Option.bind_some, ih] <;> rfl
    · rw [if_neg hp, if_neg hp, ih]
theorem compD_all (e : α → D) (f : α → D) {ρ : Env} (xs : List α) (h : ∀ x ∈ xs, ∃ ρ1, gg (e x) ρ = some ρ1 ∧ g ρ1 = some (f x)) : compD gg tTrue g ρ (xs.map e) = some (xs.map f) := by
  have := compD_map (gg := gg) (t := tTrue) (g := g) e f (fun _ => true) xs fun x hx => by
    obtain ⟨ρ1, e1, e2⟩ := h x hx
    exact ⟨ρ1, e1, rfl, fun _ => e2⟩
  rw [this, List.filter_eq_self.mpr fun _ _ => rfl]
theorem compD2_all {gi1 : LF} {vs1 : List Nat} {gg1 : GF} {t1 : TF} (e : α → D) (f : α → List D) {ρ : Env} : ∀ (xs : List α), (∀ x ∈ xs, ∃ ρ1 es, gg (e x) ρ = some ρ1 ∧ gi1 ρ1 = some es ∧ compD gg1 t1 g (wipeE vs1 ρ1) es = some (f x)) → compD2 gg tTrue gi1 vs1 gg1 t1 g ρ (xs.map e) = some (xs.flatMap f)
  | [], _ => rfl
  | x :: xs, h => by
    obtain ⟨ρ1, es, e1, e2, e3⟩ := h x List.mem_cons_self
    have ih := compD2_all e f xs fun y hy => h y (List.mem_cons_of_mem _ hy)
    rw [List.map_cons, compD2, e1, Option.bind_some]
    show (some true).bind _ = _
    rw [Option.bind_some, if_pos rfl, e2, Option.bind_some, e3, Option.bind_some, ih, List.flatMap_cons] <;> rfl
theorem forD_inv (e : α → D) (f : β → α → β) (Inv : β → Env → Prop) : ∀ (xs : List α) (b : β) (ρ : Env), Inv b ρ → (∀ x ∈ xs, ∀ b ρ, Inv b ρ → ∃ ρ1, gg (e x) ρ = some ρ1 ∧ ∃ ρ2, S ρ1 = some (.nx ρ2) ∧ Inv (f b x) ρ2) →
    ∃ ρ', forD gg S (xs.map e) ρ = some (.nx ρ') ∧ Inv (xs.foldl f b) ρ'
  | [], b, ρ, i, _ => ⟨ρ, rfl, i⟩
  | x :: xs, b, ρ, i, h => by
    obtain ⟨ρ1, e1, ρ2, e2, i2⟩ := h x List.mem_cons_self b ρ i
    obtain ⟨ρ', e3, i3⟩ := forD_inv e f Inv xs (f b x) ρ2 i2 fun y hy => h y (List.mem_cons_of_mem _ hy)
    refine ⟨ρ', ?_, i3⟩
    rw [List.map_cons, forD, e1, Option.bind_some, e2, Option.bind_some]
    exact e3
/-- the same with the place told -/
theorem forD_at (e : α → D) (Inv : List α → Env → Prop) : ∀ (xs done : List α) (ρ : Env), Inv done ρ → (∀ d x r, done ++ xs = d ++ x :: r → ∀ ρ, Inv d ρ → ∃ ρ1, gg (e x) ρ = some ρ1 ∧ ∃ ρ2, S ρ1 = some (.nx ρ2) ∧ Inv (d ++ [x]) ρ2) →
    ∃ ρ', forD gg S (xs.map e) ρ = some (.nx ρ') ∧ Inv (done ++ xs) ρ'
  | [], done, ρ, i, _ => ⟨ρ, rfl, by rw [List.append_nil]; exact i⟩
  | x :: xs, done, ρ, i, h => by
    obtain ⟨ρ1, e1, ρ2, e2, i2⟩ := h done x xs rfl ρ i
    obtain ⟨ρ', e3, i3⟩ := forD_at e Inv xs (done ++ [x]) ρ2 i2 fun d y r hd => h d y r (by rw [← hd, List.append_assoc]; rfl)
    refine ⟨ρ', ?_, by rw [List.append_assoc] at i3; exact i3⟩
    rw [List.map_cons, forD, e1, Option.bind_some, e2, Option.bind_some]
    exact e3
/-- a loop that leaves at the first that fails -/
theorem forD_ret (e : α → D) (Inv : Env → Prop) (p : α → Bool) (r : D) : ∀ (xs : List α) (ρ : Env), Inv ρ → (∀ x ∈ xs, ∀ ρ, Inv ρ → ∃ ρ1, gg (e x) ρ = some ρ1 ∧ ((p x = true ∧ ∃ ρ2, S ρ1 = some (.nx ρ2) ∧ Inv ρ2) ∨ (p x = false ∧ S ρ1 = some (.rt r)))) →
    (xs.all p = true ∧ ∃ ρ', forD gg S (xs.map e) ρ = some (.nx ρ') ∧ Inv ρ') ∨ (xs.all p = false ∧ forD gg S (xs.map e) ρ = some (.rt r))
  | [], ρ, i, _ => .inl ⟨rfl, ρ, rfl, i⟩
  | x :: xs, ρ, i, h => by
    obtain ⟨ρ1, e1, q⟩ := h x List.mem_cons_self ρ i
    rw [List.map_cons, forD, e1, Option.bind_some, List.all_cons]
    rcases q with ⟨hp, ρ2, e2, i2⟩ | ⟨hp, e2⟩
    · rw [e2, Option.bind_some, hp, Bool.true_and]
      exact forD_ret e Inv p r xs ρ2 i2 fun y hy => h y (List.mem_cons_of_mem _ hy)
    · rw [e2, hp]
      exact .inr ⟨rfl, rfl⟩
end
/-! ### ranges -/
def rng (n : Nat) : List Int := (List.range n).map fun k : Nat => (k : Int)
theorem rngD_nat {n : Nat} (h : n ≤ LIM) : rngD 0 (n : Int) = some ((rng n).map PyData.int) := by
  unfold rngD
  rw [if_pos ⟨by omega, by simp only [LIM] at h ⊢; omega, by decide, by simp only [LIM] at h; omega⟩]
  unfold rngL rng
  rw [List.map_map]
  congr 1
  rw [show ((n : Int) - 0).toNat = n by omega]
  exact List.map_congr_left fun k _ => by simp
theorem mem_rng {n : Nat} {x : Int} : x ∈ rng n ↔ 0 ≤ x ∧ x < n := by
  unfold rng
  rw [List.mem_map]
  constructor
  · rintro ⟨k, hk, rfl⟩
    have := List.mem_range.mp hk
    omega
  · intro h
    exact ⟨x.toNat, List.mem_range.mpr (by omega), by omega⟩
theorem len_rng (n : Nat) : (rng n).length = n := by unfold rng; rw [List.length_map, List.length_range]
end PL

set_option Elab.async false
set_option linter.all false
set_option maxRecDepth 100000
set_option maxHeartbeats 1000000
/-! PN: how the mirrors are reckoned: one row for each form, always at an environment. -/
namespace PL
open PySem L2
section
variable {ρ ρ' : Env} {S T : SF} {t u : TF} {g h : EF} {f : D → D → Option D} {a b : D} {gs : AF} {i : Nat} {l : LF} {gg : GF} {r : GsF}
theorem x_seq : sSeq S T ρ = (S ρ).bind fun o => sThen o T := rfl
theorem x_nx : sThen (.nx ρ) T = T ρ := rfl
theorem x_rt : sThen (.rt a) T = some (.rt a) := rfl
theorem x_bk : sThen (.bk ρ) T = some (.bk ρ) := rfl
theorem x_ct : sThen (.ct ρ) T = some (.ct ρ) := rfl
theorem x_lnx {k : Env → Option Out} : loopO (.nx ρ) k = k ρ := rfl
theorem x_lct {k : Env → Option Out} : loopO (.ct ρ) k = k ρ := rfl
theorem x_lbk {k : Env → Option Out} : loopO (.bk ρ) k = some (.nx ρ) := rfl
theorem x_lrt {k : Env → Option Out} : loopO (.rt a) k = some (.rt a) := rfl
theorem x_nil : sNil ρ = some (.nx ρ) := rfl
theorem x_ret : sRet g ρ = (g ρ).map .rt := rfl
theorem x_set : sSet i g ρ = (g ρ).map fun d => .nx (setS ρ i (.dat d)) := rfl
theorem x_asg : sAsg gg g ρ = (g ρ).bind fun d => (gg d ρ).map .nx := rfl
theorem x_new : sNew i l ρ = (l ρ).map fun ds => .nx (setS ρ i (.own ds)) := rfl
theorem x_frz : sFrz i S ρ = S (frzE i ρ) := rfl
theorem x_if : sIf t S T ρ = (t ρ).bind fun b => if b = true then S ρ else T ρ := rfl
theorem x_drop : sDrop g ρ = (g ρ).map fun _ => .nx ρ := rfl
theorem x_for : sFor l gg S ρ = (l ρ).bind fun ds => forD gg S ds ρ := rfl
theorem x_gN : gN i a ρ = some (setS ρ i (.dat a)) := rfl
theorem x_gT {ds : List D} : gT r (.tuple ds) ρ = r ds ρ := rfl
theorem x_gsN : gsN [] ρ = some ρ := rfl
theorem x_gsC {ds : List D} : gsC gg r (a :: ds) ρ = (gg a ρ).bind (r ds) := rfl
theorem x_var : eVar i ρ = match getS ρ i with | .dat d => some d | _ => none := rfl
theorem x_vvar : vVar i ρ = match getS ρ i with | .dat d => some d | .own ds => some (.list ds) | .un => none := rfl
theorem x_c : eC a ρ = some a := rfl
theorem x_bin : eBin f g h ρ = (g ρ).bind fun a => (h ρ).bind fun b => f a b := rfl
theorem x_un {f : D → Option D} : eUn f g ρ = (g ρ).bind f := rfl
theorem x_of : tOf g ρ = (g ρ).bind asB := rfl
theorem x_tru : tTru g ρ = (g ρ).bind truD := rfl
theorem x_tand : tAnd' t u ρ = (t ρ).bind fun c => if c = true then u ρ else some false := rfl
theorem x_tor : tOr' t u ρ = (t ρ).bind fun c => if c = true then some true else u ρ := rfl
theorem x_tnot : tNot' t ρ = (t ρ).map fun c => !c := rfl
theorem x_tT : tTrue ρ = some true := rfl
theorem x_and : eAnd g h ρ = (g ρ).bind fun a => (asB a).bind fun c => if c = true then h ρ else some (.bool false) := rfl
theorem x_or : eOr g h ρ = (g ρ).bind fun a => (asB a).bind fun c => if c = true then some (.bool true) else h ρ := rfl
theorem x_not : eNot g ρ = (g ρ).bind fun a => (asB a).map fun c => .bool (!c) := rfl
theorem x_eif : eIf t g h ρ = (t ρ).bind fun c => if c = true then g ρ else h ρ := rfl
theorem x_aN : aNil ρ = some [] := rfl
theorem x_aC : aCons g gs ρ = (g ρ).bind fun d => (gs ρ).map fun ds => d :: ds := rfl
theorem x_tup : eTup gs ρ = (gs ρ).bind fun ds => if ds.length ≤ LIM then some (.tuple ds) else none := rfl
theorem x_lst : eLst gs ρ = (gs ρ).bind fun ds => if ds.length ≤ LIM then some (.list ds) else none := rfl
theorem x_llst : lLst gs ρ = (gs ρ).bind fun ds => if ds.length ≤ LIM then some ds else none := rfl
theorem x_call {f : List D → Option D} : eCall f gs ρ = (gs ρ).bind f := rfl
theorem x_eL : eL l ρ = (l ρ).map .list := rfl
theorem x_lseq : lSeq g ρ = (g ρ).bind seqD := rfl
theorem x_rng1 : lRng1 g ρ = (g ρ).bind fun d => (asI d).bind fun n => rngD 0 n := rfl
theorem x_comp {is : List Nat} : lComp is l gg t g ρ = (l ρ).bind fun ds => compD gg t g (wipeE is ρ) ds := rfl
theorem x_comp2 {is is1 : List Nat} {l1 : LF} {gg1 : GF} {t1 : TF} : lComp2 is is1 l gg t l1 gg1 t1 g ρ = (l ρ).bind fun ds => (compD2 gg t l1 is1 gg1 t1 g (wipeE is ρ) ds).bind fun ys => if ys.length ≤ LIM then some ys else none := rfl
theorem x_app : sApp i g ρ = match getS ρ i with
  | .own ds => (g ρ).bind fun d => if ds.length < LIM then some (.nx (setS ρ i (.own (ds ++ [d])))) else none
  | _ => none := rfl
theorem x_ext : sExt i g ρ = match getS ρ i with
  | .own ds => (g ρ).bind fun d => match d with
    | .list es => if ds.length + es.length ≤ LIM then some (.nx (setS ρ i (.own (ds ++ es)))) else none
    | _ => none
  | _ => none := rfl
theorem x_frzE : frzE i ρ = match getS ρ i with | .own ds => setS ρ i (.dat (.list ds)) | _ => ρ := rfl
theorem x_f1 {f : D → Option D} : f1 f [a] = f a := rfl
theorem x_f2 {f : D → D → Option D} : f2 f [a, b] = f a b := rfl
theorem x_fn {np n : Nat} {ds : List D} : fnD np n S ds = if ds.length = np then (S (startE n ds)).bind retO else none := rfl
theorem x_start {n : Nat} {ds : List D} : startE n ds = ds.map .dat ++ List.replicate (n - ds.length) .un := rfl
theorem x_rrt : retO (.rt a) = some a := rfl
theorem x_rnx : retO (.nx ρ) = some .none := rfl
theorem x_any {ds : List D} : anyD (.list ds) = (boolsOf ds).map fun bs => .bool (bs.any id) := rfl
theorem x_all {ds : List D} : allD (.list ds) = (boolsOf ds).map fun bs => .bool (bs.all id) := rfl
theorem x_bN : boolsOf [] = some [] := rfl
theorem x_bC {k : Bool} {ds : List D} : boolsOf (.bool k :: ds) = (boolsOf ds).map fun r => k :: r := rfl
theorem x_asB {k : Bool} : asB (.bool k) = some k := rfl
theorem x_asI {k : Int} : asI (.int k) = some k := rfl
theorem x_truB {k : Bool} : truD (.bool k) = some k := rfl
theorem x_truI {k : Int} : truD (.int k) = some (k != 0) := rfl
theorem x_seqL {ds : List D} : seqD (.list ds) = some ds := rfl
theorem x_seqT {ds : List D} : seqD (.tuple ds) = some ds := rfl
theorem x_lenL {ds : List D} : lenD (.list ds) = some (.int ds.length) := rfl
theorem x_lenT {ds : List D} : lenD (.tuple ds) = some (.int ds.length) := rfl
theorem x_tupL {ds : List D} : tupD (.list ds) = some (.tuple ds) := rfl
theorem x_tupT {ds : List D} : tupD (.tuple ds) = some (.tuple ds) := rfl
theorem x_int {k : Int} : intD1 (.int k) = some (.int k) := rfl
theorem x_wN : wipeE [] ρ = ρ := rfl
theorem x_wC {is : List Nat} : wipeE (i :: is) ρ = setS (wipeE is ρ) i .un := rfl
theorem x_ixT {ds : List D} {k : Int} : ixD (.tuple ds) (.int k) = atI ds k := rfl
theorem x_ixL {ds : List D} {k : Int} : ixD (.list ds) (.int k) = atI ds k := rfl
theorem x_ite {α β : Type} {c : Prop} [Decidable c] {x y : Option α} {k : α → Option β} : (if c then x else y).bind k = if c then x.bind k else y.bind k := by split <;> rfl
theorem x_itm {α β : Type} {c : Prop} [Decidable c] {x y : Option α} {k : α → β} : (if c then x else y).map k = if c then x.map k else y.map k := by split <;> rfl
theorem x_addI {i j : Int} : addD (.int i) (.int j) = some (.int (i + j)) := rfl
theorem x_subI {i j : Int} : subD (.int i) (.int j) = some (.int (i - j)) := rfl
theorem x_addT {xs ys : List D} : addD (.tuple xs) (.tuple ys) = if xs.length + ys.length ≤ LIM then some (.tuple (xs ++ ys)) else none := rfl
theorem x_addL {xs ys : List D} : addD (.list xs) (.list ys) = if xs.length + ys.length ≤ LIM then some (.list (xs ++ ys)) else none := rfl
theorem x_gt {i j : Int} : gtD (.int i) (.int j) = some (.bool (decide (j < i))) := rfl
theorem x_ge {i j : Int} : geD (.int i) (.int j) = some (.bool (decide (j ≤ i))) := rfl
theorem x_le {i j : Int} : leD (.int i) (.int j) = some (.bool (decide (i ≤ j))) := rfl
theorem x_lt {i j : Int} : ltD (.int i) (.int j) = some (.bool (decide (i < j))) := rfl
theorem x_mod {i j : Int} (h : 0 < j) : modD (.int i) (.int j) = some (.int (i % j)) := by
  show (if decide (0 < j) = true then _ else _) = _
  rw [if_pos (decide_eq_true h)]
theorem x_fdiv {i j : Int} (h : 0 < j) (h2 : j < 1073741824) : fdivD (.int i) (.int j) = some (.int (i / j)) := by
  show (if (decide (0 < j) && decide (j < 1073741824)) = true then _ else _) = _
  rw [if_pos (by simp [h, h2])]
theorem x_mul {i j : Int} (h : -18446744073709551616 < j) (h2 : j < 18446744073709551616) : mulD (.int i) (.int j) = some (.int (i * j)) := by
  show (if mulC i j = true then _ else _) = _
  rw [if_pos (by unfold mulC; rw [decide_eq_true (show -(2 ^ 64) < j from h), decide_eq_true (show j < 2 ^ 64 from h2)]; simp)]
theorem x_mul' {i j : Int} (h : -18446744073709551616 < i) (h2 : i < 18446744073709551616) : mulD (.int i) (.int j) = some (.int (i * j)) := by
  show (if mulC i j = true then _ else _) = _
  rw [if_pos (by unfold mulC; rw [decide_eq_true (show -(2 ^ 64) < i from h), decide_eq_true (show i < 2 ^ 64 from h2)]; simp)]
theorem x_sq {i m : Int} (h : 0 < m) (h2 : m < 18446744073709551616) : mulD (.int (i % m)) (.int (i % m)) = some (.int (i % m * (i % m))) := by
  have h3 := Int.emod_nonneg i (show m ≠ 0 by omega)
  have h4 := Int.emod_lt_of_pos i h
  exact x_mul (by omega) (by omega)
theorem x_pow18 : powD (.int 10) (.int 18) = some (.int 1000000000000000000) := rfl
end
theorem x_atN {α : Type} {xs : List α} {k : Nat} : atI xs (k : Int) = xs[k]? := by
  unfold atI ixN
  by_cases h : k < xs.length
  · rw [if_pos (by omega), if_pos (by omega), Option.bind_some, Int.toNat_natCast]
  · rw [if_pos (by omega), if_neg (by omega), List.getElem?_eq_none (by omega)] <;> rfl
theorem x_at0 {d : D} {ds : List D} : atI (d :: ds) 0 = some d := x_atN (k := 0)
theorem x_at1 {d e : D} {ds : List D} : atI (d :: e :: ds) 1 = some e := x_atN (k := 1)
theorem x_at2 {d e f : D} {ds : List D} : atI (d :: e :: f :: ds) 2 = some f := x_atN (k := 2)
theorem eqD_int (i j : Int) : eqD (.int i) (.int j) = some (.bool (decide (i = j))) := eq_D (α := Int) i j
theorem neD_int (i j : Int) : neD (.int i) (.int j) = some (.bool (!decide (i = j))) := ne_D (α := Int) i j
theorem eqD_bool (a b : Bool) : eqD (.bool a) (.bool b) = some (.bool (a == b)) := by cases a <;> cases b <;> rfl
theorem neD_bool (a b : Bool) : neD (.bool a) (.bool b) = some (.bool (a != b)) := by cases a <;> cases b <;> rfl
theorem all_D {α : Type} (h : α → Bool) (l : List α) : allD (.list (l.map fun x => PyData.bool (h x))) = some (.bool (l.all h)) := by
  rw [x_all, show (l.map fun x => PyData.bool (h x)) = (l.map h).map PyData.bool by rw [List.map_map]; rfl, boolsOf_map, Option.map_some, List.all_map] <;> rfl
theorem any_D {α : Type} (h : α → Bool) (l : List α) : anyD (.list (l.map fun x => PyData.bool (h x))) = some (.bool (l.any h)) := by
  rw [x_any, show (l.map fun x => PyData.bool (h x)) = (l.map h).map PyData.bool by rw [List.map_map]; rfl, boolsOf_map, Option.map_some, List.any_map] <;> rfl
theorem bind2_of {α β γ : Type} {a a' : Option α} {K : α → Option β} {R : β → Option γ} (e : a = a') : (a.bind K).bind R = (a'.bind K).bind R := by rw [e]
theorem x_isi {T : String} {g : EF} {ρ : Env} : eIsi T g ρ = (g ρ).bind (isiD T) := rfl
theorem x_is_int_bool {i : Int} : isiD "bool" (.int i) = some (.bool false) := by
  show (kitB (tyD (.int i)) "bool").map PyData.bool = _
  rw [show kitB (tyD (.int i)) "bool" = some false from (by decide +kernel : kitB "int" "bool" = some false)] <;> rfl
theorem x_is_int_int {i : Int} : isiD "int" (.int i) = some (.bool true) := by
  show (kitB (tyD (.int i)) "int").map PyData.bool = _
  rw [show kitB (tyD (.int i)) "int" = some true from (by decide +kernel : kitB "int" "int" = some true)] <;> rfl
theorem x_is_int_str {i : Int} : isiD "str" (.int i) = some (.bool false) := by
  show (kitB (tyD (.int i)) "str").map PyData.bool = _
  rw [show kitB (tyD (.int i)) "str" = some false from (by decide +kernel : kitB "int" "str" = some false)] <;> rfl
theorem x_is_int_tuple {i : Int} : isiD "tuple" (.int i) = some (.bool false) := by
  show (kitB (tyD (.int i)) "tuple").map PyData.bool = _
  rw [show kitB (tyD (.int i)) "tuple" = some false from (by decide +kernel : kitB "int" "tuple" = some false)] <;> rfl
theorem x_is_int_list {i : Int} : isiD "list" (.int i) = some (.bool false) := by
  show (kitB (tyD (.int i)) "list").map PyData.bool = _
  rw [show kitB (tyD (.int i)) "list" = some false from (by decide +kernel : kitB "int" "list" = some false)] <;> rfl
theorem x_is_int_dict {i : Int} : isiD "dict" (.int i) = some (.bool false) := by
  show (kitB (tyD (.int i)) "dict").map PyData.bool = _
  rw [show kitB (tyD (.int i)) "dict" = some false from (by decide +kernel : kitB "int" "dict" = some false)] <;> rfl
theorem x_is_tup_bool {ds : List D} : isiD "bool" (.tuple ds) = some (.bool false) := by
  show (kitB (tyD (.tuple ds)) "bool").map PyData.bool = _
  rw [show kitB (tyD (.tuple ds)) "bool" = some false from (by decide +kernel : kitB "tuple" "bool" = some false)] <;> rfl
theorem x_is_tup_int {ds : List D} : isiD "int" (.tuple ds) = some (.bool false) := by
  show (kitB (tyD (.tuple ds)) "int").map PyData.bool = _
  rw [show kitB (tyD (.tuple ds)) "int" = some false from (by decide +kernel : kitB "tuple" "int" = some false)] <;> rfl
theorem x_is_tup_str {ds : List D} : isiD "str" (.tuple ds) = some (.bool false) := by
  show (kitB (tyD (.tuple ds)) "str").map PyData.bool = _
  rw [show kitB (tyD (.tuple ds)) "str" = some false from (by decide +kernel : kitB "tuple" "str" = some false)] <;> rfl
theorem x_is_tup_tuple {ds : List D} : isiD "tuple" (.tuple ds) = some (.bool true) := by
  show (kitB (tyD (.tuple ds)) "tuple").map PyData.bool = _
  rw [show kitB (tyD (.tuple ds)) "tuple" = some true from (by decide +kernel : kitB "tuple" "tuple" = some true)] <;> rfl
theorem x_is_tup_list {ds : List D} : isiD "list" (.tuple ds) = some (.bool false) := by
  show (kitB (tyD (.tuple ds)) "list").map PyData.bool = _
  rw [show kitB (tyD (.tuple ds)) "list" = some false from (by decide +kernel : kitB "tuple" "list" = some false)] <;> rfl
theorem x_is_tup_dict {ds : List D} : isiD "dict" (.tuple ds) = some (.bool false) := by
  show (kitB (tyD (.tuple ds)) "dict").map PyData.bool = _
  rw [show kitB (tyD (.tuple ds)) "dict" = some false from (by decide +kernel : kitB "tuple" "dict" = some false)] <;> rfl
theorem x_is_lst_bool {ds : List D} : isiD "bool" (.list ds) = some (.bool false) := by
  show (kitB (tyD (.list ds)) "bool").map PyData.bool = _
  rw [show kitB (tyD (.list ds)) "bool" = some false from (by decide +kernel : kitB "list" "bool" = some false)] <;> rfl
theorem x_is_lst_int {ds : List D} : isiD "int" (.list ds) = some (.bool false) := by
  show (kitB (tyD (.list ds)) "int").map PyData.bool = _
  rw [show kitB (tyD (.list ds)) "int" = some false from (by decide +kernel : kitB "list" "int" = some false)] <;> rfl
theorem x_is_lst_str {ds : List D} : isiD "str" (.list ds) = some (.bool false) := by
  show (kitB (tyD (.list ds)) "str").map PyData.bool = _
  rw [show kitB (tyD (.list ds)) "str" = some false from (by decide +kernel : kitB "list" "str" = some false)] <;> rfl
theorem x_is_lst_tuple {ds : List D} : isiD "tuple" (.list ds) = some (.bool false) := by
  show (kitB (tyD (.list ds)) "tuple").map PyData.bool = _
  rw [show kitB (tyD (.list ds)) "tuple" = some false from (by decide +kernel : kitB "list" "tuple" = some false)] <;> rfl
theorem x_is_lst_list {ds : List D} : isiD "list" (.list ds) = some (.bool true) := by
  show (kitB (tyD (.list ds)) "list").map PyData.bool = _
  rw [show kitB (tyD (.list ds)) "list" = some true from (by decide +kernel : kitB "list" "list" = some true)] <;> rfl
theorem x_is_lst_dict {ds : List D} : isiD "dict" (.list ds) = some (.bool false) := by
  show (kitB (tyD (.list ds)) "dict").map PyData.bool = _
  rw [show kitB (tyD (.list ds)) "dict" = some false from (by decide +kernel : kitB "list" "dict" = some false)] <;> rfl
theorem x_is_bl_bool {k : Bool} : isiD "bool" (.bool k) = some (.bool true) := by
  show (kitB (tyD (.bool k)) "bool").map PyData.bool = _
  rw [show kitB (tyD (.bool k)) "bool" = some true from (by decide +kernel : kitB "bool" "bool" = some true)] <;> rfl
theorem x_is_bl_int {k : Bool} : isiD "int" (.bool k) = some (.bool true) := by
  show (kitB (tyD (.bool k)) "int").map PyData.bool = _
  rw [show kitB (tyD (.bool k)) "int" = some true from (by decide +kernel : kitB "bool" "int" = some true)] <;> rfl
theorem x_is_bl_str {k : Bool} : isiD "str" (.bool k) = some (.bool false) := by
  show (kitB (tyD (.bool k)) "str").map PyData.bool = _
  rw [show kitB (tyD (.bool k)) "str" = some false from (by decide +kernel : kitB "bool" "str" = some false)] <;> rfl
theorem x_is_bl_tuple {k : Bool} : isiD "tuple" (.bool k) = some (.bool false) := by
  show (kitB (tyD (.bool k)) "tuple").map PyData.bool = _
  rw [show kitB (tyD (.bool k)) "tuple" = some false from (by decide +kernel : kitB "bool" "tuple" = some false)] <;> rfl
theorem x_is_bl_list {k : Bool} : isiD "list" (.bool k) = some (.bool false) := by
  show (kitB (tyD (.bool k)) "list").map PyData.bool = _
  rw [show kitB (tyD (.bool k)) "list" = some false from (by decide +kernel : kitB "bool" "list" = some false)] <;> rfl
theorem x_is_bl_dict {k : Bool} : isiD "dict" (.bool k) = some (.bool false) := by
  show (kitB (tyD (.bool k)) "dict").map PyData.bool = _
  rw [show kitB (tyD (.bool k)) "dict" = some false from (by decide +kernel : kitB "bool" "dict" = some false)] <;> rfl
theorem x_is_non_bool : isiD "bool" .none = some (.bool false) := by
  show (kitB (tyD .none) "bool").map PyData.bool = _
  rw [show kitB (tyD .none) "bool" = some false from (by decide +kernel : kitB "NoneType" "bool" = some false)] <;> rfl
theorem x_is_non_int : isiD "int" .none = some (.bool false) := by
  show (kitB (tyD .none) "int").map PyData.bool = _
  rw [show kitB (tyD .none) "int" = some false from (by decide +kernel : kitB "NoneType" "int" = some false)] <;> rfl
theorem x_is_non_str : isiD "str" .none = some (.bool false) := by
  show (kitB (tyD .none) "str").map PyData.bool = _
  rw [show kitB (tyD .none) "str" = some false from (by decide +kernel : kitB "NoneType" "str" = some false)] <;> rfl
theorem x_is_non_tuple : isiD "tuple" .none = some (.bool false) := by
  show (kitB (tyD .none) "tuple").map PyData.bool = _
  rw [show kitB (tyD .none) "tuple" = some false from (by decide +kernel : kitB "NoneType" "tuple" = some false)] <;> rfl
theorem x_is_non_list : isiD "list" .none = some (.bool false) := by
  show (kitB (tyD .none) "list").map PyData.bool = _
  rw [show kitB (tyD .none) "list" = some false from (by decide +kernel : kitB "NoneType" "list" = some false)] <;> rfl
theorem x_is_non_dict : isiD "dict" .none = some (.bool false) := by
  show (kitB (tyD .none) "dict").map PyData.bool = _
  rw [show kitB (tyD .none) "dict" = some false from (by decide +kernel : kitB "NoneType" "dict" = some false)] <;> rfl
theorem x_is_str_bool {z : Str} : isiD "bool" (.str z) = some (.bool false) := by
  show (kitB (tyD (.str z)) "bool").map PyData.bool = _
  rw [show kitB (tyD (.str z)) "bool" = some false from (by decide +kernel : kitB "str" "bool" = some false)] <;> rfl
theorem x_is_str_int {z : Str} : isiD "int" (.str z) = some (.bool false) := by
  show (kitB (tyD (.str z)) "int").map PyData.bool = _
  rw [show kitB (tyD (.str z)) "int" = some false from (by decide +kernel : kitB "str" "int" = some false)] <;> rfl
theorem x_is_str_str {z : Str} : isiD "str" (.str z) = some (.bool true) := by
  show (kitB (tyD (.str z)) "str").map PyData.bool = _
  rw [show kitB (tyD (.str z)) "str" = some true from (by decide +kernel : kitB "str" "str" = some true)] <;> rfl
theorem x_is_str_tuple {z : Str} : isiD "tuple" (.str z) = some (.bool false) := by
  show (kitB (tyD (.str z)) "tuple").map PyData.bool = _
  rw [show kitB (tyD (.str z)) "tuple" = some false from (by decide +kernel : kitB "str" "tuple" = some false)] <;> rfl
theorem x_is_str_list {z : Str} : isiD "list" (.str z) = some (.bool false) := by
  show (kitB (tyD (.str z)) "list").map PyData.bool = _
  rw [show kitB (tyD (.str z)) "list" = some false from (by decide +kernel : kitB "str" "list" = some false)] <;> rfl
theorem x_is_str_dict {z : Str} : isiD "dict" (.str z) = some (.bool false) := by
  show (kitB (tyD (.str z)) "dict").map PyData.bool = _
  rw [show kitB (tyD (.str z)) "dict" = some false from (by decide +kernel : kitB "str" "dict" = some false)] <;> rfl
end PL

set_option Elab.async false
set_option linter.all false
set_option maxRecDepth 100000
set_option maxHeartbeats 0
namespace G
open PySem PySem.Spec PyProof.Rows L2 PL
def top (i : Nat) : Stmt := PySem.Challenge.pw_backforth_k48_orbits_listed.main.body.getD i (.Pass ⟨0, 0, 0, 0⟩)
abbrev s_tuples_of : Stmt := top 1
theorem sc_tuples_of : FnScope ["n", "size", "found", "_", "row", "item"] ["n", "size"] (defScope s_tuples_of) := ⟨rfl, rfl, rfl, by decide +kernel, rfl, by decide +kernel, by decide +kernel⟩
abbrev s_goes : Stmt := top 3
theorem sc_goes : FnScope ["one", "two", "first", "last", "a", "b", "c", "d", "i"] ["one", "two", "first", "last"] (defScope s_goes) := ⟨rfl, rfl, rfl, by decide +kernel, rfl, by decide +kernel, by decide +kernel⟩
abbrev s_likenesses : Stmt := top 5
theorem sc_likenesses : FnScope ["one", "two", "begun", "at", "found", "name", "pairs", "k", "pair"] ["one", "two", "begun"] (defScope s_likenesses) := ⟨rfl, rfl, rfl, by decide +kernel, rfl, by decide +kernel, by decide +kernel⟩
abbrev s_turnings : Stmt := top 6
theorem sc_turnings : FnScope ["world"] ["world"] (defScope s_turnings) := ⟨rfl, rfl, rfl, by decide +kernel, rfl, by decide +kernel, by decide +kernel⟩
abbrev s_led : Stmt := top 7
theorem sc_led : FnScope ["names", "items", "item"] ["names", "items"] (defScope s_led) := ⟨rfl, rfl, rfl, by decide +kernel, rfl, by decide +kernel, by decide +kernel⟩
abbrev s_orbits : Stmt := top 8
theorem sc_orbits : FnScope ["world", "size", "rows", "found", "items", "lot", "names"] ["world", "size"] (defScope s_orbits) := ⟨rfl, rfl, rfl, by decide +kernel, rfl, by decide +kernel, by decide +kernel⟩
abbrev s__law_cell : Stmt := top 10
theorem sc__law_cell : FnScope ["script", "k"] ["script", "k"] (defScope s__law_cell) := ⟨rfl, rfl, rfl, by decide +kernel, rfl, by decide +kernel, by decide +kernel⟩
abbrev s__law_draws : Stmt := top 11
theorem sc__law_draws : FnScope ["cell", "amount", "rows", "left", "k", "blended"] ["cell", "amount"] (defScope s__law_draws) := ⟨rfl, rfl, rfl, by decide +kernel, rfl, by decide +kernel, by decide +kernel⟩
abbrev s__law_kind : Stmt := top 12
theorem sc__law_kind : FnScope ["x"] ["x"] (defScope s__law_kind) := ⟨rfl, rfl, rfl, by decide +kernel, rfl, by decide +kernel, by decide +kernel⟩
abbrev s__law_equal : Stmt := top 13
theorem sc__law_equal : FnScope ["x", "due", "key", "k", "other"] ["x", "due"] (defScope s__law_equal) := ⟨rfl, rfl, rfl, by decide +kernel, rfl, by decide +kernel, by decide +kernel⟩
abbrev s__law_line : Stmt := top 14
theorem sc__law_line : FnScope ["n", "pairs", "a", "b"] ["n"] (defScope s__law_line) := ⟨rfl, rfl, rfl, by decide +kernel, rfl, by decide +kernel, by decide +kernel⟩
abbrev s__law_ring : Stmt := top 15
theorem sc__law_ring : FnScope ["n", "a"] ["n"] (defScope s__law_ring) := ⟨rfl, rfl, rfl, by decide +kernel, rfl, by decide +kernel, by decide +kernel⟩
abbrev s__law_both_ways : Stmt := top 16
theorem sc__law_both_ways : FnScope ["n", "edges", "pair", "a", "b"] ["n", "edges"] (defScope s__law_both_ways) := ⟨rfl, rfl, rfl, by decide +kernel, rfl, by decide +kernel, by decide +kernel⟩
abbrev s__law_special : Stmt := top 17
theorem sc__law_special : FnScope ["number", "rows"] ["number"] (defScope s__law_special) := ⟨rfl, rfl, rfl, by decide +kernel, rfl, by decide +kernel, by decide +kernel⟩
abbrev s__law_world : Stmt := top 18
theorem sc__law_world : FnScope ["draws", "most", "n", "dense", "marked", "marks", "i", "arrows", "at", "a", "b"] ["draws", "most"] (defScope s__law_world) := ⟨rfl, rfl, rfl, by decide +kernel, rfl, by decide +kernel, by decide +kernel⟩
abbrev s__law_tuples : Stmt := top 19
theorem sc__law_tuples : FnScope ["n", "size", "rows", "k", "more", "row", "item"] ["n", "size"] (defScope s__law_tuples) := ⟨rfl, rfl, rfl, by decide +kernel, rfl, by decide +kernel, by decide +kernel⟩
abbrev s__law_unlike : Stmt := top 20
theorem sc__law_unlike : FnScope ["items", "found", "item"] ["items"] (defScope s__law_unlike) := ⟨rfl, rfl, rfl, by decide +kernel, rfl, by decide +kernel, by decide +kernel⟩
abbrev s__law_fit : Stmt := top 21
theorem sc__law_fit : FnScope ["one", "two", "x", "y", "a", "b", "c", "d"] ["one", "two", "x", "y"] (defScope s__law_fit) := ⟨rfl, rfl, rfl, by decide +kernel, rfl, by decide +kernel, by decide +kernel⟩
abbrev s__law_carry : Stmt := top 22
theorem sc__law_carry : FnScope ["one", "two", "x", "y", "a", "b", "c", "d"] ["one", "two", "x", "y"] (defScope s__law_carry) := ⟨rfl, rfl, rfl, by decide +kernel, rfl, by decide +kernel, by decide +kernel⟩
abbrev s__law_goes : Stmt := top 23
theorem sc__law_goes : FnScope ["one", "two", "pairs", "way", "x", "y"] ["one", "two", "pairs", "way"] (defScope s__law_goes) := ⟨rfl, rfl, rfl, by decide +kernel, rfl, by decide +kernel, by decide +kernel⟩
abbrev s__law_ways : Stmt := top 24
theorem sc__law_ways : FnScope ["one", "two", "way", "rows", "k", "more", "row", "item", "pairs", "j"] ["one", "two", "way"] (defScope s__law_ways) := ⟨rfl, rfl, rfl, by decide +kernel, rfl, by decide +kernel, by decide +kernel⟩
abbrev s_law : Stmt := top 25
theorem sc_law : FnScope ["script", "draws", "world", "size", "names", "due", "row", "lot", "name", "item"] ["script"] (defScope s_law) := ⟨rfl, rfl, rfl, by decide +kernel, rfl, by decide +kernel, by decide +kernel⟩
/-! ### what they compute -/
def b_tuples_of_0 : SF := (sSet 2 (eL (lComp2 [4, 5] [5] (lSeq (vVar 2)) (gN 4) tTrue (lRng1 (vVar 0)) (gN 5) tTrue (eBin addD (vVar 4) (eTup (aCons (eVar 5) aNil))))))
def S_tuples_of : SF := (sSeq (sSet 2 (eLst (aCons (eTup aNil) aNil)))
  (sSeq (sFor (lRng1 (vVar 1)) (gN 3) b_tuples_of_0)
  (sRet (eVar 2))))
def m_tuples_of : List D → Option D := fnD 2 6 S_tuples_of
def S_goes : SF := (sSeq (sAsg (gT (gsC (gN 4) (gsC (gN 5) gsN))) (eVar 2))
  (sSeq (sAsg (gT (gsC (gN 6) (gsC (gN 7) gsN))) (eVar 3))
  (sSeq (sIf (tOf (eBin neD (eBin eqD (vVar 4) (vVar 6)) (eBin eqD (vVar 5) (vVar 7)))) (sRet (eC (.bool false))) sNil)
  (sSeq (sIf (tTru (eCall (f1 anyD) (aCons (eL (lComp [8] (lSeq (eTup (aCons (eC (.int 0)) (aCons (eC (.int 1)) aNil)))) (gN 8) tTrue (eBin neD (eBin inD (vVar 4) (eBin ixD (eBin ixD (vVar 0) (eC (.int 1))) (vVar 8))) (eBin inD (vVar 5) (eBin ixD (eBin ixD (vVar 1) (eC (.int 1))) (vVar 8)))))) aNil))) (sRet (eC (.bool false))) sNil)
  (sRet (eAnd (eBin eqD (eBin inD (eTup (aCons (eVar 4) (aCons (eVar 6) aNil))) (eBin ixD (vVar 0) (eC (.int 2)))) (eBin inD (eTup (aCons (eVar 5) (aCons (eVar 7) aNil))) (eBin ixD (vVar 1) (eC (.int 2))))) (eBin eqD (eBin inD (eTup (aCons (eVar 6) (aCons (eVar 4) aNil))) (eBin ixD (vVar 0) (eC (.int 2)))) (eBin inD (eTup (aCons (eVar 7) (aCons (eVar 5) aNil))) (eBin ixD (vVar 1) (eC (.int 2)))))))))))
def m_goes : List D → Option D := fnD 4 9 S_goes
def b_likenesses_0 (r_likenesses : List D → Option D) : SF := (sSeq (sSet 6 (eBin addD (eL (lComp [7] (lRng1 (vVar 3)) (gN 7) tTrue (eTup (aCons (eVar 7) (aCons (eBin ixD (vVar 2) (vVar 7)) aNil))))) (eLst (aCons (eTup (aCons (eVar 3) (aCons (eVar 5) aNil))) aNil))))
  (sIf (tTru (eCall (f1 allD) (aCons (eL (lComp [8] (lSeq (vVar 6)) (gN 8) tTrue (eCall m_goes (aCons (eVar 0) (aCons (eVar 1) (aCons (eTup (aCons (eVar 3) (aCons (eVar 5) aNil))) (aCons (eVar 8) aNil))))))) aNil))) (sExt 4 (eCall r_likenesses (aCons (eVar 0) (aCons (eVar 1) (aCons (eBin addD (vVar 2) (eTup (aCons (eVar 5) aNil))) aNil))))) sNil))
def S_likenesses (r_likenesses : List D → Option D) : SF := (sSeq (sSet 3 (eCall (f1 lenD) (aCons (vVar 2) aNil)))
  (sSeq (sIf (tOf (eBin eqD (vVar 3) (eBin ixD (vVar 0) (eC (.int 0))))) (sRet (eLst (aCons (eVar 2) aNil))) sNil)
  (sSeq (sNew 4 (lLst aNil))
  (sSeq (sFor (lRng1 (eBin ixD (vVar 1) (eC (.int 0)))) (gN 5) (b_likenesses_0 r_likenesses))
  (sFrz 4 (sRet (eVar 4)))))))
def m_likenesses : Nat → List D → Option D
  | 0 => fun _ => none
  | k + 1 => fnD 3 9 (S_likenesses (m_likenesses k))
def S_turnings : SF := (sRet (eCall (m_likenesses 8) (aCons (eVar 0) (aCons (eVar 0) (aCons (eTup aNil) aNil)))))
def m_turnings : List D → Option D := fnD 1 1 S_turnings
def S_led : SF := (sRet (eCall (f1 tupD) (aCons (eL (lComp [2] (lSeq (vVar 1)) (gN 2) tTrue (eBin ixD (vVar 0) (vVar 2)))) aNil)))
def m_led : List D → Option D := fnD 2 3 S_led
def b_orbits_0 : SF := (sSeq (sSet 5 (eCall (f1 tupD) (aCons (eUn ssetD (eL (lComp [6] (lSeq (vVar 2)) (gN 6) tTrue (eCall m_led (aCons (eVar 6) (aCons (eVar 4) aNil)))))) aNil)))
  (sIf (tOf (eBin eqD (eBin ixD (vVar 5) (eC (.int 0))) (vVar 4))) (sApp 3 (eVar 5)) sNil))
def S_orbits : SF := (sSeq (sSet 2 (eCall m_turnings (aCons (eVar 0) aNil)))
  (sSeq (sNew 3 (lLst aNil))
  (sSeq (sFor (lSeq (eCall m_tuples_of (aCons (eBin ixD (vVar 0) (eC (.int 0))) (aCons (eVar 1) aNil)))) (gN 4) b_orbits_0)
  (sFrz 3 (sRet (eVar 3))))))
def m_orbits : List D → Option D := fnD 2 7 S_orbits
def S__law_cell : SF := (sSeq (sIf (tOf (eBin ltD (vVar 1) (eCall (f1 lenD) (aCons (vVar 0) aNil)))) (sRet (eBin ixD (vVar 0) (vVar 1))) sNil)
  (sRet (eC (.int 0))))
def m__law_cell : List D → Option D := fnD 2 2 S__law_cell
def b__law_draws_0 : SF := (sIf (tAnd' (tOf (eBin geD (vVar 0) (eBin powD (eC (.int 10)) (eC (.int 18))))) (tOf (eBin gtD (vVar 3) (eC (.int 0))))) (sSeq (sApp 2 (eBin modD (eCall (f1 intD1) (aCons (vVar 3) aNil)) (eC (.int 4096))))
  (sSet 3 (eBin fdivD (vVar 3) (eC (.int 4096))))) (sSeq (sSet 5 (eBin modD (eCall (f1 intD1) (aCons (eBin addD (eBin mulD (vVar 0) (eC (.int 48271))) (eBin mulD (eBin addD (vVar 4) (eC (.int 1))) (eC (.int 69621)))) aNil)) (eC (.int 2147483647))))
  (sSeq (sSet 5 (eBin modD (eCall (f1 intD1) (aCons (eBin addD (eBin addD (eBin mulD (vVar 5) (vVar 5)) (eBin mulD (vVar 5) (eC (.int 16807)))) (eBin mulD (vVar 4) (eC (.int 7919)))) aNil)) (eC (.int 2147483629))))
  (sSeq (sSet 5 (eBin modD (eCall (f1 intD1) (aCons (eBin addD (eBin addD (eBin mulD (vVar 5) (vVar 5)) (vVar 0)) (eBin mulD (eC (.int 13)) (vVar 4))) aNil)) (eC (.int 2147483587))))
  (sApp 2 (eBin modD (eBin fdivD (vVar 5) (eC (.int 7))) (eC (.int 4096))))))))
def S__law_draws : SF := (sSeq (sNew 2 (lLst aNil))
  (sSeq (sSet 3 (eVar 0))
  (sSeq (sFor (lRng1 (vVar 1)) (gN 4) b__law_draws_0)
  (sFrz 2 (sRet (eVar 2))))))
def m__law_draws : List D → Option D := fnD 2 6 S__law_draws
def S__law_kind : SF := (sSeq (sIf (tTru (eIsi "bool" (vVar 0))) (sRet (eC (.int 1))) sNil)
  (sSeq (sIf (tTru (eIsi "int" (vVar 0))) (sRet (eC (.int 2))) sNil)
  (sSeq (sIf (tTru (eIsi "str" (vVar 0))) (sRet (eC (.int 3))) sNil)
  (sSeq (sIf (tTru (eIsi "tuple" (vVar 0))) (sRet (eC (.int 4))) sNil)
  (sSeq (sIf (tTru (eIsi "list" (vVar 0))) (sRet (eC (.int 5))) sNil)
  (sSeq (sIf (tTru (eIsi "dict" (vVar 0))) (sRet (eC (.int 6))) sNil)
  (sRet (eC (.int 0)))))))))
def m__law_kind : List D → Option D := fnD 1 1 S__law_kind
def b__law_equal_0 (r__law_equal : List D → Option D) : SF := (sSeq (sIf (tOr' (tOf (eBin notInD (vVar 2) (vVar 1))) (tNot' (tTru (eCall r__law_equal (aCons (eBin ixD (vVar 0) (vVar 2)) (aCons (eBin ixD (vVar 1) (vVar 2)) aNil)))))) (sRet (eC (.bool false))) sNil)
  (sIf (tOf (eBin eqD (eCall (f1 lenD) (aCons (eL (lComp [4] (lSeq (vVar 1)) (gN 4) (tAnd' (tOf (eBin eqD (vVar 4) (vVar 2))) (tTru (eCall r__law_equal (aCons (eVar 2) (aCons (eVar 4) aNil))))) (eVar 4))) aNil)) (eC (.int 0)))) (sRet (eC (.bool false))) sNil))
def S__law_equal (r__law_equal : List D → Option D) : SF := (sSeq (sIf (tOf (eBin neD (eCall m__law_kind (aCons (eVar 0) aNil)) (eCall m__law_kind (aCons (eVar 1) aNil)))) (sRet (eC (.bool false))) sNil)
  (sSeq (sIf (tOr' (tTru (eIsi "tuple" (vVar 1))) (tTru (eIsi "list" (vVar 1)))) (sSeq (sIf (tOf (eBin neD (eCall (f1 lenD) (aCons (vVar 0) aNil)) (eCall (f1 lenD) (aCons (vVar 1) aNil)))) (sRet (eC (.bool false))) sNil)
  (sRet (eBin eqD (eCall (f1 lenD) (aCons (eL (lComp [3] (lRng1 (eCall (f1 lenD) (aCons (vVar 1) aNil))) (gN 3) (tNot' (tTru (eCall r__law_equal (aCons (eBin ixD (vVar 0) (vVar 3)) (aCons (eBin ixD (vVar 1) (vVar 3)) aNil))))) (eVar 3))) aNil)) (eC (.int 0))))) sNil)
  (sSeq (sIf (tTru (eIsi "dict" (vVar 1))) (sSeq (sIf (tOf (eBin neD (eCall (f1 lenD) (aCons (vVar 0) aNil)) (eCall (f1 lenD) (aCons (vVar 1) aNil)))) (sRet (eC (.bool false))) sNil)
  (sSeq (sFor (lSeq (eVar 0)) (gN 2) (b__law_equal_0 r__law_equal))
  (sRet (eC (.bool true))))) sNil)
  (sRet (eBin eqD (vVar 0) (vVar 1))))))
def m__law_equal : Nat → List D → Option D
  | 0 => fun _ => none
  | k + 1 => fnD 2 5 (S__law_equal (m__law_equal k))
def b__law_line_0 : SF := (sSet 1 (eBin addD (vVar 1) (eCall (f1 tupD) (aCons (eL (lComp [3] (lRng2 (eBin addD (vVar 2) (eC (.int 1))) (vVar 0)) (gN 3) tTrue (eTup (aCons (eVar 2) (aCons (eVar 3) aNil))))) aNil))))
def S__law_line : SF := (sSeq (sSet 1 (eTup aNil))
  (sSeq (sFor (lRng1 (vVar 0)) (gN 2) b__law_line_0)
  (sRet (eTup (aCons (eVar 0) (aCons (eTup (aCons (eTup aNil) (aCons (eTup aNil) aNil))) (aCons (eVar 1) aNil)))))))
def m__law_line : List D → Option D := fnD 1 4 S__law_line
def S__law_ring : SF := (sRet (eTup (aCons (eVar 0) (aCons (eTup (aCons (eTup aNil) (aCons (eTup aNil) aNil))) (aCons (eCall (f1 tupD) (aCons (eCall (f1 sortD) (aCons (eL (lComp [1] (lRng1 (vVar 0)) (gN 1) tTrue (eTup (aCons (eVar 1) (aCons (eBin modD (eBin addD (vVar 1) (eC (.int 1))) (vVar 0)) aNil))))) aNil)) aNil)) aNil)))))
def m__law_ring : List D → Option D := fnD 1 2 S__law_ring
def S__law_both_ways : SF := (sRet (eTup (aCons (eVar 0) (aCons (eTup (aCons (eTup aNil) (aCons (eTup aNil) aNil))) (aCons (eCall (f1 tupD) (aCons (eCall (f1 sortD) (aCons (eBin addD (eL (lComp [2] (lSeq (vVar 1)) (gN 2) tTrue (eVar 2))) (eL (lComp [3, 4] (lSeq (vVar 1)) (gT (gsC (gN 3) (gsC (gN 4) gsN))) tTrue (eTup (aCons (eVar 4) (aCons (eVar 3) aNil)))))) aNil)) aNil)) aNil)))))
def m__law_both_ways : List D → Option D := fnD 2 5 S__law_both_ways
def S__law_special : SF := (sSeq (sSet 1 (eLst (aCons (eCall m__law_line (aCons (eC (.int 3)) aNil)) (aCons (eCall m__law_line (aCons (eC (.int 4)) aNil)) (aCons (eCall m__law_ring (aCons (eC (.int 3)) aNil)) (aCons (eCall m__law_ring (aCons (eC (.int 4)) aNil)) (aCons (eTup (aCons (eC (.int 2)) (aCons (eTup (aCons (eTup aNil) (aCons (eTup aNil) aNil))) (aCons (eTup aNil) aNil)))) (aCons (eTup (aCons (eC (.int 3)) (aCons (eTup (aCons (eTup aNil) (aCons (eTup aNil) aNil))) (aCons (eTup aNil) aNil)))) (aCons (eTup (aCons (eC (.int 4)) (aCons (eTup (aCons (eTup aNil) (aCons (eTup aNil) aNil))) (aCons (eTup aNil) aNil)))) aNil)))))))))
  (sSeq (sSet 1 (eBin addD (vVar 1) (eLst (aCons (eCall m__law_both_ways (aCons (eC (.int 4)) (aCons (eTup (aCons (eTup (aCons (eC (.int 0)) (aCons (eC (.int 1)) aNil))) (aCons (eTup (aCons (eC (.int 1)) (aCons (eC (.int 2)) aNil))) (aCons (eTup (aCons (eC (.int 2)) (aCons (eC (.int 3)) aNil))) aNil)))) aNil))) (aCons (eCall m__law_both_ways (aCons (eC (.int 4)) (aCons (eTup (aCons (eTup (aCons (eC (.int 0)) (aCons (eC (.int 1)) aNil))) (aCons (eTup (aCons (eC (.int 1)) (aCons (eC (.int 2)) aNil))) (aCons (eTup (aCons (eC (.int 2)) (aCons (eC (.int 3)) aNil))) (aCons (eTup (aCons (eC (.int 0)) (aCons (eC (.int 3)) aNil))) aNil))))) aNil))) (aCons (eCall m__law_both_ways (aCons (eC (.int 3)) (aCons (eTup (aCons (eTup (aCons (eC (.int 0)) (aCons (eC (.int 1)) aNil))) (aCons (eTup (aCons (eC (.int 1)) (aCons (eC (.int 2)) aNil))) (aCons (eTup (aCons (eC (.int 0)) (aCons (eC (.int 2)) aNil))) aNil)))) aNil))) aNil))))))
  (sRet (eBin ixD (vVar 1) (eBin modD (vVar 0) (eCall (f1 lenD) (aCons (vVar 1) aNil)))))))
def m__law_special : List D → Option D := fnD 1 2 S__law_special
def b__law_world_0 : SF := (sSet 5 (eBin addD (vVar 5) (eTup (aCons (eCall (f1 tupD) (aCons (eL (lComp [9] (lRng1 (vVar 2)) (gN 9) (tOf (eBin eqD (eBin modD (eBin fdivD (eCall (f1 intD1) (aCons (eBin ixD (vVar 0) (eBin addD (eC (.int 3)) (vVar 9))) aNil)) (eBin addD (eC (.int 1)) (vVar 6))) (vVar 4)) (eC (.int 0)))) (eVar 9))) aNil)) aNil))))
def b__law_world_1 : SF := (sSeq (sIf (tOf (eBin eqD (eBin modD (eBin fdivD (eCall (f1 intD1) (aCons (eBin ixD (vVar 0) (eBin modD (vVar 8) (eCall (f1 lenD) (aCons (vVar 0) aNil)))) aNil)) (eBin addD (eC (.int 1)) (eBin fdivD (vVar 8) (eCall (f1 lenD) (aCons (vVar 0) aNil))))) (vVar 3)) (eC (.int 0)))) (sApp 7 (eTup (aCons (eVar 9) (aCons (eVar 10) aNil)))) sNil)
  (sSet 8 (eBin addD (vVar 8) (eC (.int 1)))))
def b__law_world_2 : SF := (sFor (lRng1 (vVar 2)) (gN 10) b__law_world_1)
def q__law_world_10 : SF := (sRet (eTup (aCons (eVar 2) (aCons (eVar 5) (aCons (eCall (f1 tupD) (aCons (eCall (f1 sortD) (aCons (vVar 7) aNil)) aNil)) aNil)))))
def q__law_world_9 : SF := (sSeq (sIf (tOf (eBin eqD (eBin modD (eBin ixD (vVar 0) (eC (.int 2))) (eC (.int 5))) (eC (.int 1)))) (sSeq (sNew 7 (lCat (vVar 7) (eL (lComp [9, 10] (lSeq (vVar 7)) (gT (gsC (gN 9) (gsC (gN 10) gsN))) (tOf (eBin notInD (eTup (aCons (eVar 10) (aCons (eVar 9) aNil))) (vVar 7))) (eTup (aCons (eVar 10) (aCons (eVar 9) aNil)))))))
  (sNew 7 (lComp [9, 10] (lSeq (vVar 7)) (gT (gsC (gN 9) (gsC (gN 10) gsN))) (tOf (eBin neD (vVar 9) (vVar 10))) (eTup (aCons (eVar 9) (aCons (eVar 10) aNil)))))) sNil) q__law_world_10)
def q__law_world_8 : SF := (sSeq (sFor (lRng1 (vVar 2)) (gN 9) b__law_world_2) q__law_world_9)
def q__law_world_7 : SF := (sSeq (sSet 8 (eC (.int 11))) q__law_world_8)
def q__law_world_6 : SF := (sSeq (sNew 7 (lLst aNil)) q__law_world_7)
def q__law_world_5 : SF := (sSeq (sFor (lRng1 (eC (.int 2))) (gN 6) b__law_world_0) q__law_world_6)
def q__law_world_4 : SF := (sSeq (sSet 5 (eTup aNil)) q__law_world_5)
def q__law_world_3 : SF := (sSeq (sSet 4 (eBin ixD (eLst (aCons (eC (.int 2)) (aCons (eC (.int 9999)) (aCons (eC (.int 3)) (aCons (eC (.int 9999)) aNil))))) (eBin modD (eBin fdivD (eCall (f1 intD1) (aCons (eBin ixD (vVar 0) (eC (.int 1))) aNil)) (eC (.int 24))) (eC (.int 4))))) q__law_world_4)
def q__law_world_2 : SF := (sSeq (sSet 3 (eBin ixD (eLst (aCons (eC (.int 2)) (aCons (eC (.int 3)) (aCons (eC (.int 5)) (aCons (eC (.int 3)) aNil))))) (eBin modD (eBin fdivD (eCall (f1 intD1) (aCons (eBin ixD (vVar 0) (eC (.int 1))) aNil)) (eC (.int 6))) (eC (.int 4))))) q__law_world_3)
def q__law_world_1 : SF := (sSeq (sIf (tAnd' (tOf (eBin eqD (eBin modD (eBin ixD (vVar 0) (eC (.int 1))) (eC (.int 6))) (eC (.int 1)))) (tOf (eBin leD (eBin ixD (eCall m__law_special (aCons (eCall (f1 intD1) (aCons (eBin ixD (vVar 0) (eC (.int 2))) aNil)) aNil)) (eC (.int 0))) (vVar 1)))) (sRet (eCall m__law_special (aCons (eCall (f1 intD1) (aCons (eBin ixD (vVar 0) (eC (.int 2))) aNil)) aNil))) sNil) q__law_world_2)
def q__law_world_0 : SF := (sSeq (sSet 2 (eBin addD (eC (.int 1)) (eBin modD (eCall (f1 intD1) (aCons (eBin ixD (vVar 0) (eC (.int 0))) aNil)) (vVar 1)))) q__law_world_1)
def S__law_world : SF := q__law_world_0
def m__law_world : List D → Option D := fnD 2 11 S__law_world
def b__law_tuples_0 : SF := (sSet 4 (eBin addD (vVar 4) (eL (lComp [6] (lRng1 (vVar 0)) (gN 6) tTrue (eBin addD (vVar 5) (eTup (aCons (eVar 6) aNil)))))))
def b__law_tuples_1 : SF := (sSeq (sSet 4 (eLst aNil))
  (sSeq (sFor (lSeq (eVar 2)) (gN 5) b__law_tuples_0)
  (sSet 2 (eVar 4))))
def S__law_tuples : SF := (sSeq (sSet 2 (eLst (aCons (eTup aNil) aNil)))
  (sSeq (sFor (lRng1 (vVar 1)) (gN 3) b__law_tuples_1)
  (sRet (eVar 2))))
def m__law_tuples : List D → Option D := fnD 2 7 S__law_tuples
def b__law_unlike_0 : SF := (sIf (tOf (eBin notInD (vVar 2) (vVar 1))) (sApp 1 (eVar 2)) sNil)
def S__law_unlike : SF := (sSeq (sNew 1 (lLst aNil))
  (sSeq (sFor (lSeq (eCall (f1 sortD) (aCons (vVar 0) aNil))) (gN 2) b__law_unlike_0)
  (sRet (eCall (f1 tupD) (aCons (vVar 1) aNil)))))
def m__law_unlike : List D → Option D := fnD 1 3 S__law_unlike
def S__law_fit : SF := (sSeq (sAsg (gT (gsC (gN 4) (gsC (gN 5) gsN))) (eVar 2))
  (sSeq (sAsg (gT (gsC (gN 6) (gsC (gN 7) gsN))) (eVar 3))
  (sSeq (sIf (tOf (eBin neD (eBin eqD (vVar 4) (vVar 6)) (eBin eqD (vVar 5) (vVar 7)))) (sRet (eC (.bool false))) sNil)
  (sSeq (sIf (tOr' (tOf (eBin neD (eBin inD (vVar 4) (eBin ixD (eBin ixD (vVar 0) (eC (.int 1))) (eC (.int 0)))) (eBin inD (vVar 5) (eBin ixD (eBin ixD (vVar 1) (eC (.int 1))) (eC (.int 0)))))) (tOf (eBin neD (eBin inD (vVar 4) (eBin ixD (eBin ixD (vVar 0) (eC (.int 1))) (eC (.int 1)))) (eBin inD (vVar 5) (eBin ixD (eBin ixD (vVar 1) (eC (.int 1))) (eC (.int 1))))))) (sRet (eC (.bool false))) sNil)
  (sRet (eAnd (eBin eqD (eBin inD (eTup (aCons (eVar 4) (aCons (eVar 6) aNil))) (eBin ixD (vVar 0) (eC (.int 2)))) (eBin inD (eTup (aCons (eVar 5) (aCons (eVar 7) aNil))) (eBin ixD (vVar 1) (eC (.int 2))))) (eBin eqD (eBin inD (eTup (aCons (eVar 6) (aCons (eVar 4) aNil))) (eBin ixD (vVar 0) (eC (.int 2)))) (eBin inD (eTup (aCons (eVar 7) (aCons (eVar 5) aNil))) (eBin ixD (vVar 1) (eC (.int 2)))))))))))
def m__law_fit : List D → Option D := fnD 4 8 S__law_fit
def S__law_carry : SF := (sSeq (sAsg (gT (gsC (gN 4) (gsC (gN 5) gsN))) (eVar 2))
  (sSeq (sAsg (gT (gsC (gN 6) (gsC (gN 7) gsN))) (eVar 3))
  (sSeq (sIf (tOr' (tAnd' (tOf (eBin eqD (vVar 4) (vVar 6))) (tOf (eBin neD (vVar 5) (vVar 7)))) (tOr' (tAnd' (tOf (eBin inD (vVar 4) (eBin ixD (eBin ixD (vVar 0) (eC (.int 1))) (eC (.int 0))))) (tOf (eBin notInD (vVar 5) (eBin ixD (eBin ixD (vVar 1) (eC (.int 1))) (eC (.int 0)))))) (tAnd' (tOf (eBin inD (vVar 4) (eBin ixD (eBin ixD (vVar 0) (eC (.int 1))) (eC (.int 1))))) (tOf (eBin notInD (vVar 5) (eBin ixD (eBin ixD (vVar 1) (eC (.int 1))) (eC (.int 1)))))))) (sRet (eC (.bool false))) sNil)
  (sRet (eAnd (eNot (eAnd (eBin inD (eTup (aCons (eVar 4) (aCons (eVar 6) aNil))) (eBin ixD (vVar 0) (eC (.int 2)))) (eBin notInD (eTup (aCons (eVar 5) (aCons (eVar 7) aNil))) (eBin ixD (vVar 1) (eC (.int 2)))))) (eNot (eAnd (eBin inD (eTup (aCons (eVar 6) (aCons (eVar 4) aNil))) (eBin ixD (vVar 0) (eC (.int 2)))) (eBin notInD (eTup (aCons (eVar 7) (aCons (eVar 5) aNil))) (eBin ixD (vVar 1) (eC (.int 2)))))))))))
def m__law_carry : List D → Option D := fnD 4 8 S__law_carry
def b__law_goes_0 : SF := (sSeq (sIf (tAnd' (tOf (eBin eqD (vVar 3) (eC (.int 0)))) (tOf (eBin gtD (eCall (f1 lenD) (aCons (eL (lComp [5] (lSeq (vVar 2)) (gN 5) (tNot' (tTru (eCall m__law_fit (aCons (eVar 0) (aCons (eVar 1) (aCons (eVar 4) (aCons (eVar 5) aNil))))))) (eVar 5))) aNil)) (eC (.int 0))))) (sRet (eC (.bool false))) sNil)
  (sIf (tAnd' (tOf (eBin eqD (vVar 3) (eC (.int 1)))) (tOf (eBin gtD (eCall (f1 lenD) (aCons (eL (lComp [5] (lSeq (vVar 2)) (gN 5) (tNot' (tTru (eCall m__law_carry (aCons (eVar 0) (aCons (eVar 1) (aCons (eVar 4) (aCons (eVar 5) aNil))))))) (eVar 5))) aNil)) (eC (.int 0))))) (sRet (eC (.bool false))) sNil))
def S__law_goes : SF := (sSeq (sFor (lSeq (eVar 2)) (gN 4) b__law_goes_0)
  (sRet (eC (.bool true))))
def m__law_goes : List D → Option D := fnD 4 6 S__law_goes
def b__law_ways_0 : SF := (sSeq (sSet 8 (eBin addD (eCall (f1 tupD) (aCons (eL (lComp [9] (lRng1 (vVar 4)) (gN 9) tTrue (eTup (aCons (eVar 9) (aCons (eBin ixD (vVar 6) (vVar 9)) aNil))))) aNil)) (eTup (aCons (eTup (aCons (eVar 4) (aCons (eVar 7) aNil))) aNil))))
  (sIf (tTru (eCall m__law_goes (aCons (eVar 0) (aCons (eVar 1) (aCons (eVar 8) (aCons (eVar 2) aNil)))))) (sApp 5 (eBin addD (vVar 6) (eTup (aCons (eVar 7) aNil)))) sNil))
def b__law_ways_1 : SF := (sFor (lRng1 (eBin ixD (vVar 1) (eC (.int 0)))) (gN 7) b__law_ways_0)
def b__law_ways_2 : SF := (sSeq (sNew 5 (lLst aNil))
  (sSeq (sFor (lSeq (eVar 3)) (gN 6) b__law_ways_1)
  (sFrz 5 (sSet 3 (eVar 5)))))
def S__law_ways : SF := (sSeq (sSet 3 (eLst (aCons (eTup aNil) aNil)))
  (sSeq (sFor (lRng1 (eBin ixD (vVar 0) (eC (.int 0)))) (gN 4) b__law_ways_2)
  (sRet (eVar 3))))
def m__law_ways : List D → Option D := fnD 3 10 S__law_ways
def b_law_0 : SF := (sSeq (sSet 7 (eCall m__law_unlike (aCons (eL (lComp [8] (lSeq (vVar 4)) (gN 8) tTrue (eCall (f1 tupD) (aCons (eL (lComp [9] (lSeq (vVar 6)) (gN 9) tTrue (eBin ixD (vVar 8) (vVar 9)))) aNil)))) aNil)))
  (sIf (tOf (eBin notInD (vVar 7) (vVar 5))) (sApp 5 (eVar 7)) sNil))
def S_law : SF := (sSeq (sSet 1 (eCall m__law_draws (aCons (eCall m__law_cell (aCons (eVar 0) (aCons (eC (.int 0)) aNil))) (aCons (eC (.int 90)) aNil))))
  (sSeq (sSet 2 (eCall m__law_world (aCons (eVar 1) (aCons (eC (.int 5)) aNil))))
  (sSeq (sSet 3 (eBin modD (eBin ixD (vVar 1) (eC (.int 70))) (eC (.int 3))))
  (sSeq (sSet 4 (eCall m__law_ways (aCons (eVar 2) (aCons (eVar 2) (aCons (eC (.int 0)) aNil)))))
  (sSeq (sNew 5 (lLst aNil))
  (sSeq (sFor (lSeq (eCall m__law_tuples (aCons (eBin ixD (vVar 2) (eC (.int 0))) (aCons (eVar 3) aNil)))) (gN 6) b_law_0)
  (sRet (eAnd (eCall (m__law_equal 8) (aCons (eCall m_orbits (aCons (eVar 2) (aCons (eVar 3) aNil))) (aCons (eCall (f1 sortD) (aCons (vVar 5) aNil)) aNil))) (eCall (m__law_equal 8) (aCons (eCall m_orbits (aCons (eVar 2) (aCons (eC (.int 0)) aNil))) (aCons (eLst (aCons (eTup (aCons (eTup aNil) aNil)) aNil)) aNil)))))))))))
def m_law : List D → Option D := fnD 1 10 S_law
/-! ### what the walk leans on -/
structure Txt (K : PySem.W.Frag) (mg : Str → Option Value) where
  f_tuples_of : Addr
  fd_tuples_of : FuncData
  F_tuples_of : FunD K "tuples_of" "tuples_of" (defArgs s_tuples_of) (defBody s_tuples_of) (defScope s_tuples_of) [] [] f_tuples_of fd_tuples_of
  g_tuples_of : mg "tuples_of" = some (.ref f_tuples_of)
  f_goes : Addr
  fd_goes : FuncData
  F_goes : FunD K "goes" "goes" (defArgs s_goes) (defBody s_goes) (defScope s_goes) [] [] f_goes fd_goes
  g_goes : mg "goes" = some (.ref f_goes)
  f_likenesses : Addr
  fd_likenesses : FuncData
  F_likenesses : FunD K "likenesses" "likenesses" (defArgs s_likenesses) (defBody s_likenesses) (defScope s_likenesses) [] [] f_likenesses fd_likenesses
  g_likenesses : mg "likenesses" = some (.ref f_likenesses)
  f_turnings : Addr
  fd_turnings : FuncData
  F_turnings : FunD K "turnings" "turnings" (defArgs s_turnings) (defBody s_turnings) (defScope s_turnings) [] [] f_turnings fd_turnings
  g_turnings : mg "turnings" = some (.ref f_turnings)
  f_led : Addr
  fd_led : FuncData
  F_led : FunD K "led" "led" (defArgs s_led) (defBody s_led) (defScope s_led) [] [] f_led fd_led
  g_led : mg "led" = some (.ref f_led)
  f_orbits : Addr
  fd_orbits : FuncData
  F_orbits : FunD K "orbits" "orbits" (defArgs s_orbits) (defBody s_orbits) (defScope s_orbits) [] [] f_orbits fd_orbits
  g_orbits : mg "orbits" = some (.ref f_orbits)
  f__law_cell : Addr
  fd__law_cell : FuncData
  F__law_cell : FunD K "_law_cell" "_law_cell" (defArgs s__law_cell) (defBody s__law_cell) (defScope s__law_cell) [] [] f__law_cell fd__law_cell
  g__law_cell : mg "_law_cell" = some (.ref f__law_cell)
  f__law_draws : Addr
  fd__law_draws : FuncData
  F__law_draws : FunD K "_law_draws" "_law_draws" (defArgs s__law_draws) (defBody s__law_draws) (defScope s__law_draws) [] [] f__law_draws fd__law_draws
  g__law_draws : mg "_law_draws" = some (.ref f__law_draws)
  f__law_kind : Addr
  fd__law_kind : FuncData
  F__law_kind : FunD K "_law_kind" "_law_kind" (defArgs s__law_kind) (defBody s__law_kind) (defScope s__law_kind) [] [] f__law_kind fd__law_kind
  g__law_kind : mg "_law_kind" = some (.ref f__law_kind)
  f__law_equal : Addr
  fd__law_equal : FuncData
  F__law_equal : FunD K "_law_equal" "_law_equal" (defArgs s__law_equal) (defBody s__law_equal) (defScope s__law_equal) [] [] f__law_equal fd__law_equal
  g__law_equal : mg "_law_equal" = some (.ref f__law_equal)
  f__law_line : Addr
  fd__law_line : FuncData
  F__law_line : FunD K "_law_line" "_law_line" (defArgs s__law_line) (defBody s__law_line) (defScope s__law_line) [] [] f__law_line fd__law_line
  g__law_line : mg "_law_line" = some (.ref f__law_line)
  f__law_ring : Addr
  fd__law_ring : FuncData
  F__law_ring : FunD K "_law_ring" "_law_ring" (defArgs s__law_ring) (defBody s__law_ring) (defScope s__law_ring) [] [] f__law_ring fd__law_ring
  g__law_ring : mg "_law_ring" = some (.ref f__law_ring)
  f__law_both_ways : Addr
  fd__law_both_ways : FuncData
  F__law_both_ways : FunD K "_law_both_ways" "_law_both_ways" (defArgs s__law_both_ways) (defBody s__law_both_ways) (defScope s__law_both_ways) [] [] f__law_both_ways fd__law_both_ways
  g__law_both_ways : mg "_law_both_ways" = some (.ref f__law_both_ways)
  f__law_special : Addr
  fd__law_special : FuncData
  F__law_special : FunD K "_law_special" "_law_special" (defArgs s__law_special) (defBody s__law_special) (defScope s__law_special) [] [] f__law_special fd__law_special
  g__law_special : mg "_law_special" = some (.ref f__law_special)
  f__law_world : Addr
  fd__law_world : FuncData
  F__law_world : FunD K "_law_world" "_law_world" (defArgs s__law_world) (defBody s__law_world) (defScope s__law_world) [] [] f__law_world fd__law_world
  g__law_world : mg "_law_world" = some (.ref f__law_world)
  f__law_tuples : Addr
  fd__law_tuples : FuncData
  F__law_tuples : FunD K "_law_tuples" "_law_tuples" (defArgs s__law_tuples) (defBody s__law_tuples) (defScope s__law_tuples) [] [] f__law_tuples fd__law_tuples
  g__law_tuples : mg "_law_tuples" = some (.ref f__law_tuples)
  f__law_unlike : Addr
  fd__law_unlike : FuncData
  F__law_unlike : FunD K "_law_unlike" "_law_unlike" (defArgs s__law_unlike) (defBody s__law_unlike) (defScope s__law_unlike) [] [] f__law_unlike fd__law_unlike
  g__law_unlike : mg "_law_unlike" = some (.ref f__law_unlike)
  f__law_fit : Addr
  fd__law_fit : FuncData
  F__law_fit : FunD K "_law_fit" "_law_fit" (defArgs s__law_fit) (defBody s__law_fit) (defScope s__law_fit) [] [] f__law_fit fd__law_fit
  g__law_fit : mg "_law_fit" = some (.ref f__law_fit)
  f__law_carry : Addr
  fd__law_carry : FuncData
  F__law_carry : FunD K "_law_carry" "_law_carry" (defArgs s__law_carry) (defBody s__law_carry) (defScope s__law_carry) [] [] f__law_carry fd__law_carry
  g__law_carry : mg "_law_carry" = some (.ref f__law_carry)
  f__law_goes : Addr
  fd__law_goes : FuncData
  F__law_goes : FunD K "_law_goes" "_law_goes" (defArgs s__law_goes) (defBody s__law_goes) (defScope s__law_goes) [] [] f__law_goes fd__law_goes
  g__law_goes : mg "_law_goes" = some (.ref f__law_goes)
  f__law_ways : Addr
  fd__law_ways : FuncData
  F__law_ways : FunD K "_law_ways" "_law_ways" (defArgs s__law_ways) (defBody s__law_ways) (defScope s__law_ways) [] [] f__law_ways fd__law_ways
  g__law_ways : mg "_law_ways" = some (.ref f__law_ways)
  f_law : Addr
  fd_law : FuncData
  F_law : FunD K "law" "law" (defArgs s_law) (defBody s_law) (defScope s_law) [] [] f_law fd_law
  g_law : mg "law" = some (.ref f_law)
  z_all : mg "all" = none
  z_any : mg "any" = none
  z_bool : mg "bool" = none
  z_dict : mg "dict" = none
  z_int : mg "int" = none
  z_isinstance : mg "isinstance" = none
  z_len : mg "len" = none
  z_list : mg "list" = none
  z_range : mg "range" = none
  z_set : mg "set" = none
  z_sorted : mg "sorted" = none
  z_str : mg "str" = none
  z_tuple : mg "tuple" = none
section
variable {P : Program} {w : World} {K : PySem.W.Frag} {mg : Str → Option Value} {base : Heap}
theorem bd_tuples_of (T : Txt K mg) : Binds K T.fd_tuples_of ["n", "size"] [] := T.F_tuples_of.bindsN fun _ _ _ _ _ _ us hl => match us, hl with | [_, _], _ => rfl
theorem bd_goes (T : Txt K mg) : Binds K T.fd_goes ["one", "two", "first", "last"] [] := T.F_goes.bindsN fun _ _ _ _ _ _ us hl => match us, hl with | [_, _, _, _], _ => rfl
theorem bd_likenesses (T : Txt K mg) : Binds K T.fd_likenesses ["one", "two", "begun"] [] := T.F_likenesses.bindsN fun _ _ _ _ _ _ us hl => match us, hl with | [_, _, _], _ => rfl
theorem bd_turnings (T : Txt K mg) : Binds K T.fd_turnings ["world"] [] := T.F_turnings.bindsN fun _ _ _ _ _ _ us hl => match us, hl with | [_], _ => rfl
theorem bd_led (T : Txt K mg) : Binds K T.fd_led ["names", "items"] [] := T.F_led.bindsN fun _ _ _ _ _ _ us hl => match us, hl with | [_, _], _ => rfl
theorem bd_orbits (T : Txt K mg) : Binds K T.fd_orbits ["world", "size"] [] := T.F_orbits.bindsN fun _ _ _ _ _ _ us hl => match us, hl with | [_, _], _ => rfl
theorem bd__law_cell (T : Txt K mg) : Binds K T.fd__law_cell ["script", "k"] [] := T.F__law_cell.bindsN fun _ _ _ _ _ _ us hl => match us, hl with | [_, _], _ => rfl
theorem bd__law_draws (T : Txt K mg) : Binds K T.fd__law_draws ["cell", "amount"] [] := T.F__law_draws.bindsN fun _ _ _ _ _ _ us hl => match us, hl with | [_, _], _ => rfl
theorem bd__law_kind (T : Txt K mg) : Binds K T.fd__law_kind ["x"] [] := T.F__law_kind.bindsN fun _ _ _ _ _ _ us hl => match us, hl with | [_], _ => rfl
theorem bd__law_equal (T : Txt K mg) : Binds K T.fd__law_equal ["x", "due"] [] := T.F__law_equal.bindsN fun _ _ _ _ _ _ us hl => match us, hl with | [_, _], _ => rfl
theorem bd__law_line (T : Txt K mg) : Binds K T.fd__law_line ["n"] [] := T.F__law_line.bindsN fun _ _ _ _ _ _ us hl => match us, hl with | [_], _ => rfl
theorem bd__law_ring (T : Txt K mg) : Binds K T.fd__law_ring ["n"] [] := T.F__law_ring.bindsN fun _ _ _ _ _ _ us hl => match us, hl with | [_], _ => rfl
theorem bd__law_both_ways (T : Txt K mg) : Binds K T.fd__law_both_ways ["n", "edges"] [] := T.F__law_both_ways.bindsN fun _ _ _ _ _ _ us hl => match us, hl with | [_, _], _ => rfl
theorem bd__law_special (T : Txt K mg) : Binds K T.fd__law_special ["number"] [] := T.F__law_special.bindsN fun _ _ _ _ _ _ us hl => match us, hl with | [_], _ => rfl
theorem bd__law_world (T : Txt K mg) : Binds K T.fd__law_world ["draws", "most"] [] := T.F__law_world.bindsN fun _ _ _ _ _ _ us hl => match us, hl with | [_, _], _ => rfl
theorem bd__law_tuples (T : Txt K mg) : Binds K T.fd__law_tuples ["n", "size"] [] := T.F__law_tuples.bindsN fun _ _ _ _ _ _ us hl => match us, hl with | [_, _], _ => rfl
theorem bd__law_unlike (T : Txt K mg) : Binds K T.fd__law_unlike ["items"] [] := T.F__law_unlike.bindsN fun _ _ _ _ _ _ us hl => match us, hl with | [_], _ => rfl
theorem bd__law_fit (T : Txt K mg) : Binds K T.fd__law_fit ["one", "two", "x", "y"] [] := T.F__law_fit.bindsN fun _ _ _ _ _ _ us hl => match us, hl with | [_, _, _, _], _ => rfl
theorem bd__law_carry (T : Txt K mg) : Binds K T.fd__law_carry ["one", "two", "x", "y"] [] := T.F__law_carry.bindsN fun _ _ _ _ _ _ us hl => match us, hl with | [_, _, _, _], _ => rfl
theorem bd__law_goes (T : Txt K mg) : Binds K T.fd__law_goes ["one", "two", "pairs", "way"] [] := T.F__law_goes.bindsN fun _ _ _ _ _ _ us hl => match us, hl with | [_, _, _, _], _ => rfl
theorem bd__law_ways (T : Txt K mg) : Binds K T.fd__law_ways ["one", "two", "way"] [] := T.F__law_ways.bindsN fun _ _ _ _ _ _ us hl => match us, hl with | [_, _, _], _ => rfl
theorem bd_law (T : Txt K mg) : Binds K T.fd_law ["script"] [] := T.F_law.bindsN fun _ _ _ _ _ _ us hl => match us, hl with | [_], _ => rfl
theorem ok_tuples_of (T : Txt K mg) : FnOk P w K mg base CX0 1 T.f_tuples_of T.fd_tuples_of ["n", "size"] (SpD K m_tuples_of) :=
  T.F_tuples_of.ok (k := 0) sc_tuples_of (fun vs H Q E h => SpD.len h) (fun cdv A outer s H vs Q E hr h => ⟨tS K S_tuples_of, PSs.nox (
    (ss_cons (s_set (ps_set (i := 2) sc_tuples_of.nd rfl (by first | exact Or.inl rfl | exact Or.inr rfl) (pu_lst (pa_cons' (pu_tup pa_nil') pa_nil'))))
    (ss_cons (s_for PassesOwn.never rfl (pi_rng1 (by rfl) T.z_range (pv_var (pv 1))) (pg_n (pg_name (i := 3) sc_tuples_of.nd rfl (by first | exact Or.inl rfl | exact Or.inr rfl))) (ss_one (s_setF (s_setLc2 (i := 2) (own := [("row", 4), ("item", 5)]) (vs1 := [5]) rfl sc_tuples_of.nd rfl rfl (sw_true rfl rfl rfl (by decide +kernel)) (piv_s (pv_var (pv 2))) (blkOk_by (by kernel_rfl)) (by decide) (by decide) (by decide) (fun _ _ _ _ _ => (pg_n (pg_name (i := 4) sc_tuples_of.nd rfl (by first | exact Or.inl rfl | exact Or.inr rfl)))) (fun _ _ _ _ _ => pts_n) (fun _ _ _ _ _ => (pi_rng1 (by rfl) T.z_range (pv_var (pv 0)))) (fun _ _ _ _ _ => (pg_n (pg_name (i := 5) sc_tuples_of.nd rfl (by first | exact Or.inl rfl | exact Or.inr rfl)))) (fun _ _ _ _ _ => pts_n) (fun _ _ _ _ _ => (pu_bin o_add (pv_var (pv 4)) (PuE.v (pu_tup (pa_cons' (pu_var (pv 5)) pa_nil')))))))))
    (ss_one (s_ret (pu_var (pv 2))))))), body_run h⟩)
theorem ok_goes (T : Txt K mg) : FnOk P w K mg base CX0 1 T.f_goes T.fd_goes ["one", "two", "first", "last"] (SpD K m_goes) :=
  T.F_goes.ok (k := 0) sc_goes (fun vs H Q E h => SpD.len h) (fun cdv A outer s H vs Q E hr h => ⟨tS K S_goes, PSs.nox (
    (ss_cons (s_asg (pu_var (pv 2)) (pg_t rfl (pgs_c (pg_n (pg_name (i := 4) sc_goes.nd rfl (by first | exact Or.inl rfl | exact Or.inr rfl))) (pgs_c (pg_n (pg_name (i := 5) sc_goes.nd rfl (by first | exact Or.inl rfl | exact Or.inr rfl))) pgs_n)) (fun ds ρ ρ' h => gsC_len (fun ds ρ ρ' h => gsC_len (fun ds ρ ρ' h => gsN_len h) h) h)))
    (ss_cons (s_asg (pu_var (pv 3)) (pg_t rfl (pgs_c (pg_n (pg_name (i := 6) sc_goes.nd rfl (by first | exact Or.inl rfl | exact Or.inr rfl))) (pgs_c (pg_n (pg_name (i := 7) sc_goes.nd rfl (by first | exact Or.inl rfl | exact Or.inr rfl))) pgs_n)) (fun ds ρ ρ' h => gsC_len (fun ds ρ ρ' h => gsC_len (fun ds ρ ρ' h => gsN_len h) h) h)))
    (ss_cons (s_if (pt_cmp' (o_ne (hu64 hr)) (PuE.v (pu_cmp (o_eq (hu64 hr)) (pv_var (pv 4)) (pv_var (pv 6)) (nomark _))) (PuE.v (pu_cmp (o_eq (hu64 hr)) (pv_var (pv 5)) (pv_var (pv 7)) (nomark _))) (nomark _)) (ss_one (s_ret pu_bl)) ss_nil)
    (ss_cons (s_if (pt_tru (PuE.v (pu_callB (b_any rfl) (by rfl) T.z_any bt_any (pav_cons (PuE.v (puF_e (pf_comp (own := [("i", 8)]) rfl sc_goes.nd (piv_s (PuE.v (pu_tup (pa_cons' pu_int (pa_cons' pu_int pa_nil'))))) (blkOk_by (by kernel_rfl)) (by decide) (fun _ _ _ _ _ => (pg_n (pg_name (i := 8) sc_goes.nd rfl (by first | exact Or.inl rfl | exact Or.inr rfl)))) (fun _ _ _ _ _ => pts_n) (fun _ _ _ _ _ => (pu_cmp (o_ne (hu64 hr)) (PuE.v (pu_cmp (o_in (hu65 hr)) (pv_var (pv 4)) (PuE.v (pu_ix o_ix (PuE.v (pu_ix o_ix (pv_var (pv 0)) (PuE.v pu_int) (fun _ _ => rfl))) (pv_var (pv 8)) (fun _ _ => rfl))) (by rfl))) (PuE.v (pu_cmp (o_in (hu65 hr)) (pv_var (pv 5)) (PuE.v (pu_ix o_ix (PuE.v (pu_ix o_ix (pv_var (pv 1)) (PuE.v pu_int) (fun _ _ => rfl))) (pv_var (pv 8)) (fun _ _ => rfl))) (by rfl))) (nomark _)))))) pav_nil)))) (ss_one (s_ret pu_bl)) ss_nil)
    (ss_one (s_ret (pu_and (pu_cmp (o_eq (hu64 hr)) (PuE.v (pu_cmp (o_in (hu65 hr)) (PuE.v (pu_tup (pa_cons' (pu_var (pv 4)) (pa_cons' (pu_var (pv 6)) pa_nil')))) (PuE.v (pu_ix o_ix (pv_var (pv 0)) (PuE.v pu_int) (fun _ _ => rfl))) (by rfl))) (PuE.v (pu_cmp (o_in (hu65 hr)) (PuE.v (pu_tup (pa_cons' (pu_var (pv 5)) (pa_cons' (pu_var (pv 7)) pa_nil')))) (PuE.v (pu_ix o_ix (pv_var (pv 1)) (PuE.v pu_int) (fun _ _ => rfl))) (by rfl))) (nomark _)) (pu_one (pu_cmp (o_eq (hu64 hr)) (PuE.v (pu_cmp (o_in (hu65 hr)) (PuE.v (pu_tup (pa_cons' (pu_var (pv 6)) (pa_cons' (pu_var (pv 4)) pa_nil')))) (PuE.v (pu_ix o_ix (pv_var (pv 0)) (PuE.v pu_int) (fun _ _ => rfl))) (by rfl))) (PuE.v (pu_cmp (o_in (hu65 hr)) (PuE.v (pu_tup (pa_cons' (pu_var (pv 7)) (pa_cons' (pu_var (pv 5)) pa_nil')))) (PuE.v (pu_ix o_ix (pv_var (pv 1)) (PuE.v pu_int) (fun _ _ => rfl))) (by rfl))) (nomark _))))))))))), body_run h⟩)
theorem ok_likenesses_n (T : Txt K mg) : ∀ n : Nat, FnOk P w K mg base CX0 (2 + n) T.f_likenesses T.fd_likenesses ["one", "two", "begun"] (SpD K (m_likenesses n))
  | 0 => T.F_likenesses.ok (k := 1) sc_likenesses (fun vs H Q E h => by obtain ⟨_, _, _, _, _, z, _⟩ := h; cases z) (fun cdv A outer s H vs Q E hr h => by obtain ⟨_, _, _, _, _, z, _⟩ := h; cases z)
  | n + 1 => by
    have R_likenesses := ok_likenesses_n T n
    exact T.F_likenesses.ok (k := 2 + n) sc_likenesses (fun vs H Q E h => SpD.len h) (fun cdv A outer s H vs Q E hr h => ⟨tS K (S_likenesses (m_likenesses n)), PSs.nox (
    (ss_cons (s_set (ps_set (i := 3) sc_likenesses.nd rfl (by first | exact Or.inl rfl | exact Or.inr rfl) (pu_callB b_len (by rfl) T.z_len bt_len (pav_cons (pv_var (pv 2)) pav_nil))))
    (ss_cons (s_if (pt_cmp' (o_eq (hu64 hr)) (pv_var (pv 3)) (PuE.v (pu_ix o_ix (pv_var (pv 0)) (PuE.v pu_int) (fun _ _ => rfl))) (nomark _)) (ss_one (s_ret (pu_lst (pa_cons' (pu_var (pv 2)) pa_nil')))) ss_nil)
    (ss_cons (s_new (ps_set (i := 4) sc_likenesses.nd rfl (by first | exact Or.inl rfl | exact Or.inr rfl) (pf_lst pa_nil')))
    (ss_cons (s_for PassesOwn.never rfl (pi_rng1 (by rfl) T.z_range (PuE.v (pu_ix o_ix (pv_var (pv 1)) (PuE.v pu_int) (fun _ _ => rfl)))) (pg_n (pg_name (i := 5) sc_likenesses.nd rfl (by first | exact Or.inl rfl | exact Or.inr rfl))) (ss_cons (s_set (ps_set (i := 6) sc_likenesses.nd rfl (by first | exact Or.inl rfl | exact Or.inr rfl) (pu_bin o_add (PuE.v (puF_e (pf_comp (own := [("k", 7)]) rfl sc_likenesses.nd (pi_v (pi_rng1 (by rfl) T.z_range (pv_var (pv 3)))) (blkOk_by (by kernel_rfl)) (by decide) (fun _ _ _ _ _ => (pg_n (pg_name (i := 7) sc_likenesses.nd rfl (by first | exact Or.inl rfl | exact Or.inr rfl)))) (fun _ _ _ _ _ => pts_n) (fun _ _ _ _ _ => (pu_tup (pa_cons' (pu_var (pv 7)) (pa_cons' (pu_ix o_ix (pv_var (pv 2)) (pv_var (pv 7)) (fun _ _ => rfl)) pa_nil'))))))) (PuE.v (pu_lst (pa_cons' (pu_tup (pa_cons' (pu_var (pv 3)) (pa_cons' (pu_var (pv 5)) pa_nil'))) pa_nil'))))))
    (ss_one (s_if (pt_tru (PuE.v (pu_callB (b_all rfl) (by rfl) T.z_all bt_all (pav_cons (PuE.v (puF_e (pf_comp (own := [("pair", 8)]) rfl sc_likenesses.nd (piv_s (pv_var (pv 6))) (blkOk_by (by kernel_rfl)) (by decide) (fun _ _ _ _ _ => (pg_n (pg_name (i := 8) sc_likenesses.nd rfl (by first | exact Or.inl rfl | exact Or.inr rfl)))) (fun _ _ _ _ _ => pts_n) (fun _ _ _ _ _ => (pu_call ((ok_goes T).mono (by omega)) hr (by rfl) T.g_goes T.F_goes.kp (bd_goes T) (pa_cons' (pu_var (pv 0)) (pa_cons' (pu_var (pv 1)) (pa_cons' (pu_tup (pa_cons' (pu_var (pv 3)) (pa_cons' (pu_var (pv 5)) pa_nil'))) (pa_cons' (pu_var (pv 8)) pa_nil'))))))))) pav_nil)))) (ss_one (s_ext (pv 4) (pu_call (R_likenesses) hr (by rfl) T.g_likenesses T.F_likenesses.kp (bd_likenesses T) (pa_cons' (pu_var (pv 0)) (pa_cons' (pu_var (pv 1)) (pa_cons' (pu_bin o_add (pv_var (pv 2)) (PuE.v (pu_tup (pa_cons' (pu_var (pv 5)) pa_nil')))) pa_nil')))))) ss_nil))))
    (ss_one (s_frz 4 (s_ret (pu_var (pv 4)))))))))), body_run h⟩)
theorem ok_likenesses (T : Txt K mg) : FnOk P w K mg base CX0 10 T.f_likenesses T.fd_likenesses ["one", "two", "begun"] (SpD K (m_likenesses 8)) := ok_likenesses_n T 8
theorem ok_turnings (T : Txt K mg) : FnOk P w K mg base CX0 11 T.f_turnings T.fd_turnings ["world"] (SpD K m_turnings) :=
  T.F_turnings.ok (k := 10) sc_turnings (fun vs H Q E h => SpD.len h) (fun cdv A outer s H vs Q E hr h => ⟨tS K S_turnings, PSs.nox (
    (ss_one (s_ret (pu_call ((ok_likenesses T).mono (by omega)) hr (by rfl) T.g_likenesses T.F_likenesses.kp (bd_likenesses T) (pa_cons' (pu_var (pv 0)) (pa_cons' (pu_var (pv 0)) (pa_cons' (pu_tup pa_nil') pa_nil'))))))), body_run h⟩)
theorem ok_led (T : Txt K mg) : FnOk P w K mg base CX0 1 T.f_led T.fd_led ["names", "items"] (SpD K m_led) :=
  T.F_led.ok (k := 0) sc_led (fun vs H Q E h => SpD.len h) (fun cdv A outer s H vs Q E hr h => ⟨tS K S_led, PSs.nox (
    (ss_one (s_ret (pu_callTy b_tuple (by rfl) T.z_tuple bt_tuple (pav_cons (PuE.v (puF_e (pf_comp (own := [("item", 2)]) rfl sc_led.nd (piv_s (pv_var (pv 1))) (blkOk_by (by kernel_rfl)) (by decide) (fun _ _ _ _ _ => (pg_n (pg_name (i := 2) sc_led.nd rfl (by first | exact Or.inl rfl | exact Or.inr rfl)))) (fun _ _ _ _ _ => pts_n) (fun _ _ _ _ _ => (pu_ix o_ix (pv_var (pv 0)) (pv_var (pv 2)) (fun _ _ => rfl)))))) pav_nil))))), body_run h⟩)
theorem ok_orbits (T : Txt K mg) : FnOk P w K mg base CX0 12 T.f_orbits T.fd_orbits ["world", "size"] (SpD K m_orbits) :=
  T.F_orbits.ok (k := 11) sc_orbits (fun vs H Q E h => SpD.len h) (fun cdv A outer s H vs Q E hr h => ⟨tS K S_orbits, PSs.nox (
    (ss_cons (s_set (ps_set (i := 2) sc_orbits.nd rfl (by first | exact Or.inl rfl | exact Or.inr rfl) (pu_call ((ok_turnings T).mono (by omega)) hr (by rfl) T.g_turnings T.F_turnings.kp (bd_turnings T) (pa_cons' (pu_var (pv 0)) pa_nil'))))
    (ss_cons (s_new (ps_set (i := 3) sc_orbits.nd rfl (by first | exact Or.inl rfl | exact Or.inr rfl) (pf_lst pa_nil')))
    (ss_cons (s_for PassesOwn.never rfl (pi_s (pu_call ((ok_tuples_of T).mono (by omega)) hr (by rfl) T.g_tuples_of T.F_tuples_of.kp (bd_tuples_of T) (pa_cons' (pu_ix o_ix (pv_var (pv 0)) (PuE.v pu_int) (fun _ _ => rfl)) (pa_cons' (pu_var (pv 1)) pa_nil')))) (pg_n (pg_name (i := 4) sc_orbits.nd rfl (by first | exact Or.inl rfl | exact Or.inr rfl))) (ss_cons (s_set (ps_set (i := 5) sc_orbits.nd rfl (by first | exact Or.inl rfl | exact Or.inr rfl) (pu_callTy b_tuple (by rfl) T.z_tuple bt_tuple (pav_cons (PuE.v (pu_sset rfl (hu68 hr) (by rfl) T.z_sorted boot_sorted (by rfl) T.z_set boot_set (puF_e (pf_comp (own := [("names", 6)]) rfl sc_orbits.nd (piv_s (pv_var (pv 2))) (blkOk_by (by kernel_rfl)) (by decide) (fun _ _ _ _ _ => (pg_n (pg_name (i := 6) sc_orbits.nd rfl (by first | exact Or.inl rfl | exact Or.inr rfl)))) (fun _ _ _ _ _ => pts_n) (fun _ _ _ _ _ => (pu_call ((ok_led T).mono (by omega)) hr (by rfl) T.g_led T.F_led.kp (bd_led T) (pa_cons' (pu_var (pv 6)) (pa_cons' (pu_var (pv 4)) pa_nil')))))))) pav_nil))))
    (ss_one (s_if (pt_cmp' (o_eq (hu64 hr)) (PuE.v (pu_ix o_ix (pv_var (pv 5)) (PuE.v pu_int) (fun _ _ => rfl))) (pv_var (pv 4)) (nomark _)) (ss_one (s_app (pv 3) (pu_var (pv 5)))) ss_nil))))
    (ss_one (s_frz 3 (s_ret (pu_var (pv 3))))))))), body_run h⟩)
theorem ok__law_cell (T : Txt K mg) : FnOk P w K mg base CX0 1 T.f__law_cell T.fd__law_cell ["script", "k"] (SpD K m__law_cell) :=
  T.F__law_cell.ok (k := 0) sc__law_cell (fun vs H Q E h => SpD.len h) (fun cdv A outer s H vs Q E hr h => ⟨tS K S__law_cell, PSs.nox (
    (ss_cons (s_if (pt_cmp' (o_lt (hu0 hr)) (pv_var (pv 1)) (PuE.v (pu_callB b_len (by rfl) T.z_len bt_len (pav_cons (pv_var (pv 0)) pav_nil))) (nomark _)) (ss_one (s_ret (pu_ix o_ix (pv_var (pv 0)) (pv_var (pv 1)) (fun _ _ => rfl)))) ss_nil)
    (ss_one (s_ret pu_int)))), body_run h⟩)
theorem ok__law_draws (T : Txt K mg) : FnOk P w K mg base CX0 1 T.f__law_draws T.fd__law_draws ["cell", "amount"] (SpD K m__law_draws) :=
  T.F__law_draws.ok (k := 0) sc__law_draws (fun vs H Q E h => SpD.len h) (fun cdv A outer s H vs Q E hr h => ⟨tS K S__law_draws, PSs.nox (
    (ss_cons (s_new (ps_set (i := 2) sc__law_draws.nd rfl (by first | exact Or.inl rfl | exact Or.inr rfl) (pf_lst pa_nil')))
    (ss_cons (s_set (ps_set (i := 3) sc__law_draws.nd rfl (by first | exact Or.inl rfl | exact Or.inr rfl) (pu_var (pv 0))))
    (ss_cons (s_for PassesOwn.never rfl (pi_rng1 (by rfl) T.z_range (pv_var (pv 1))) (pg_n (pg_name (i := 4) sc__law_draws.nd rfl (by first | exact Or.inl rfl | exact Or.inr rfl))) (ss_one (s_if (PW.pt (pw_and' (pt_cmp' o_ge (pv_var (pv 0)) (PuE.v (pu_bin o_pow (PuE.v pu_int) (PuE.v pu_int))) (nomark _)) (pw_and1' (pt_cmp' o_gt (pv_var (pv 3)) (PuE.v pu_int) (nomark _))))) (ss_cons (s_app (pv 2) (pu_bin o_mod (PuE.v (pu_callTy b_int (by rfl) T.z_int bt_int (pav_cons (pv_var (pv 3)) pav_nil))) (PuE.v pu_int)))
    (ss_one (s_set (ps_set (i := 3) sc__law_draws.nd rfl (by first | exact Or.inl rfl | exact Or.inr rfl) (pu_bin o_fdiv (pv_var (pv 3)) (PuE.v pu_int)))))) (ss_cons (s_set (ps_set (i := 5) sc__law_draws.nd rfl (by first | exact Or.inl rfl | exact Or.inr rfl) (pu_bin o_mod (PuE.v (pu_callTy b_int (by rfl) T.z_int bt_int (pav_cons (PuE.v (pu_bin o_add (PuE.v (pu_bin o_mul (pv_var (pv 0)) (PuE.v pu_int))) (PuE.v (pu_bin o_mul (PuE.v (pu_bin o_add (pv_var (pv 4)) (PuE.v pu_int))) (PuE.v pu_int))))) pav_nil))) (PuE.v pu_int))))
    (ss_cons (s_set (ps_set (i := 5) sc__law_draws.nd rfl (by first | exact Or.inl rfl | exact Or.inr rfl) (pu_bin o_mod (PuE.v (pu_callTy b_int (by rfl) T.z_int bt_int (pav_cons (PuE.v (pu_bin o_add (PuE.v (pu_bin o_add (PuE.v (pu_bin o_mul (pv_var (pv 5)) (pv_var (pv 5)))) (PuE.v (pu_bin o_mul (pv_var (pv 5)) (PuE.v pu_int))))) (PuE.v (pu_bin o_mul (pv_var (pv 4)) (PuE.v pu_int))))) pav_nil))) (PuE.v pu_int))))
    (ss_cons (s_set (ps_set (i := 5) sc__law_draws.nd rfl (by first | exact Or.inl rfl | exact Or.inr rfl) (pu_bin o_mod (PuE.v (pu_callTy b_int (by rfl) T.z_int bt_int (pav_cons (PuE.v (pu_bin o_add (PuE.v (pu_bin o_add (PuE.v (pu_bin o_mul (pv_var (pv 5)) (pv_var (pv 5)))) (pv_var (pv 0)))) (PuE.v (pu_bin o_mul (PuE.v pu_int) (pv_var (pv 4)))))) pav_nil))) (PuE.v pu_int))))
    (ss_one (s_app (pv 2) (pu_bin o_mod (PuE.v (pu_bin o_fdiv (pv_var (pv 5)) (PuE.v pu_int))) (PuE.v pu_int))))))))))
    (ss_one (s_frz 2 (s_ret (pu_var (pv 2))))))))), body_run h⟩)
theorem ok__law_kind (T : Txt K mg) : FnOk P w K mg base CX0 1 T.f__law_kind T.fd__law_kind ["x"] (SpD K m__law_kind) :=
  T.F__law_kind.ok (k := 0) sc__law_kind (fun vs H Q E h => SpD.len h) (fun cdv A outer s H vs Q E hr h => ⟨tS K S__law_kind, PSs.nox (
    (ss_cons (s_if (pt_tru (PuE.v (pu_isi (x := "x") (by rfl) T.z_isinstance bt_isinstance (pv_var (pv 0)) (by rfl) T.z_bool bt_bool))) (ss_one (s_ret pu_int)) ss_nil)
    (ss_cons (s_if (pt_tru (PuE.v (pu_isi (x := "x") (by rfl) T.z_isinstance bt_isinstance (pv_var (pv 0)) (by rfl) T.z_int bt_int))) (ss_one (s_ret pu_int)) ss_nil)
    (ss_cons (s_if (pt_tru (PuE.v (pu_isi (x := "x") (by rfl) T.z_isinstance bt_isinstance (pv_var (pv 0)) (by rfl) T.z_str bt_str))) (ss_one (s_ret pu_int)) ss_nil)
    (ss_cons (s_if (pt_tru (PuE.v (pu_isi (x := "x") (by rfl) T.z_isinstance bt_isinstance (pv_var (pv 0)) (by rfl) T.z_tuple bt_tuple))) (ss_one (s_ret pu_int)) ss_nil)
    (ss_cons (s_if (pt_tru (PuE.v (pu_isi (x := "x") (by rfl) T.z_isinstance bt_isinstance (pv_var (pv 0)) (by rfl) T.z_list bt_list))) (ss_one (s_ret pu_int)) ss_nil)
    (ss_cons (s_if (pt_tru (PuE.v (pu_isi (x := "x") (by rfl) T.z_isinstance bt_isinstance (pv_var (pv 0)) (by rfl) T.z_dict bt_dict))) (ss_one (s_ret pu_int)) ss_nil)
    (ss_one (s_ret pu_int))))))))), body_run h⟩)
theorem ok__law_equal_n (T : Txt K mg) : ∀ n : Nat, FnOk P w K mg base CX0 (2 + n) T.f__law_equal T.fd__law_equal ["x", "due"] (SpD K (m__law_equal n))
  | 0 => T.F__law_equal.ok (k := 1) sc__law_equal (fun vs H Q E h => by obtain ⟨_, _, _, _, _, z, _⟩ := h; cases z) (fun cdv A outer s H vs Q E hr h => by obtain ⟨_, _, _, _, _, z, _⟩ := h; cases z)
  | n + 1 => by
    have R__law_equal := ok__law_equal_n T n
    exact T.F__law_equal.ok (k := 2 + n) sc__law_equal (fun vs H Q E h => SpD.len h) (fun cdv A outer s H vs Q E hr h => ⟨tS K (S__law_equal (m__law_equal n)), PSs.nox (
    (ss_cons (s_if (pt_cmp' (o_ne (hu64 hr)) (PuE.v (pu_call ((ok__law_kind T).mono (by omega)) hr (by rfl) T.g__law_kind T.F__law_kind.kp (bd__law_kind T) (pa_cons' (pu_var (pv 0)) pa_nil'))) (PuE.v (pu_call ((ok__law_kind T).mono (by omega)) hr (by rfl) T.g__law_kind T.F__law_kind.kp (bd__law_kind T) (pa_cons' (pu_var (pv 1)) pa_nil'))) (nomark _)) (ss_one (s_ret pu_bl)) ss_nil)
    (ss_cons (s_if (PW.pt (pw_or' (pt_tru (PuE.v (pu_isi (x := "x") (by rfl) T.z_isinstance bt_isinstance (pv_var (pv 1)) (by rfl) T.z_tuple bt_tuple))) (pw_or1' (pt_tru (PuE.v (pu_isi (x := "x") (by rfl) T.z_isinstance bt_isinstance (pv_var (pv 1)) (by rfl) T.z_list bt_list)))))) (ss_cons (s_if (pt_cmp' (o_ne (hu64 hr)) (PuE.v (pu_callB b_len (by rfl) T.z_len bt_len (pav_cons (pv_var (pv 0)) pav_nil))) (PuE.v (pu_callB b_len (by rfl) T.z_len bt_len (pav_cons (pv_var (pv 1)) pav_nil))) (nomark _)) (ss_one (s_ret pu_bl)) ss_nil)
    (ss_one (s_ret (pu_cmp (o_eq (hu64 hr)) (PuE.v (pu_callB b_len (by rfl) T.z_len bt_len (pav_cons (PuE.v (puF_e (pf_comp (own := [("k", 3)]) rfl sc__law_equal.nd (pi_v (pi_rng1 (by rfl) T.z_range (PuE.v (pu_callB b_len (by rfl) T.z_len bt_len (pav_cons (pv_var (pv 1)) pav_nil))))) (blkOk_by (by kernel_rfl)) (by decide) (fun _ _ _ _ _ => (pg_n (pg_name (i := 3) sc__law_equal.nd rfl (by first | exact Or.inl rfl | exact Or.inr rfl)))) (fun _ _ _ _ _ => (pts_1 (pt_not' (pt_tru (PuE.v (pu_call (R__law_equal) hr (by rfl) T.g__law_equal T.F__law_equal.kp (bd__law_equal T) (pa_cons' (pu_ix o_ix (pv_var (pv 0)) (pv_var (pv 3)) (fun _ _ => rfl)) (pa_cons' (pu_ix o_ix (pv_var (pv 1)) (pv_var (pv 3)) (fun _ _ => rfl)) pa_nil')))))))) (fun _ _ _ _ _ => (pu_var (pv 3)))))) pav_nil))) (PuE.v pu_int) (nomark _))))) ss_nil)
    (ss_cons (s_if (pt_tru (PuE.v (pu_isi (x := "x") (by rfl) T.z_isinstance bt_isinstance (pv_var (pv 1)) (by rfl) T.z_dict bt_dict))) (ss_cons (s_if (pt_cmp' (o_ne (hu64 hr)) (PuE.v (pu_callB b_len (by rfl) T.z_len bt_len (pav_cons (pv_var (pv 0)) pav_nil))) (PuE.v (pu_callB b_len (by rfl) T.z_len bt_len (pav_cons (pv_var (pv 1)) pav_nil))) (nomark _)) (ss_one (s_ret pu_bl)) ss_nil)
    (ss_cons (s_for PassesOwn.never rfl (pi_s (pu_var (pv 0))) (pg_n (pg_name (i := 2) sc__law_equal.nd rfl (by first | exact Or.inl rfl | exact Or.inr rfl))) (ss_cons (s_if (PW.pt (pw_or' (pt_cmp' (o_notIn (hu65 hr)) (pv_var (pv 2)) (pv_var (pv 1)) (by rfl)) (pw_or1' (pt_not' (pt_tru (PuE.v (pu_call (R__law_equal) hr (by rfl) T.g__law_equal T.F__law_equal.kp (bd__law_equal T) (pa_cons' (pu_ix o_ix (pv_var (pv 0)) (pv_var (pv 2)) (fun _ _ => rfl)) (pa_cons' (pu_ix o_ix (pv_var (pv 1)) (pv_var (pv 2)) (fun _ _ => rfl)) pa_nil'))))))))) (ss_one (s_ret pu_bl)) ss_nil)
    (ss_one (s_if (pt_cmp' (o_eq (hu64 hr)) (PuE.v (pu_callB b_len (by rfl) T.z_len bt_len (pav_cons (PuE.v (puF_e (pf_comp (own := [("other", 4)]) rfl sc__law_equal.nd (piv_s (pv_var (pv 1))) (blkOk_by (by kernel_rfl)) (by decide) (fun _ _ _ _ _ => (pg_n (pg_name (i := 4) sc__law_equal.nd rfl (by first | exact Or.inl rfl | exact Or.inr rfl)))) (fun _ _ _ _ _ => (pts_1 (PW.pt (pw_and' (pt_cmp' (o_eq (hu64 hr)) (pv_var (pv 4)) (pv_var (pv 2)) (nomark _)) (pw_and1' (pt_tru (PuE.v (pu_call (R__law_equal) hr (by rfl) T.g__law_equal T.F__law_equal.kp (bd__law_equal T) (pa_cons' (pu_var (pv 2)) (pa_cons' (pu_var (pv 4)) pa_nil')))))))))) (fun _ _ _ _ _ => (pu_var (pv 4)))))) pav_nil))) (PuE.v pu_int) (nomark _)) (ss_one (s_ret pu_bl)) ss_nil))))
    (ss_one (s_ret pu_bl)))) ss_nil)
    (ss_one (s_ret (pu_cmp (o_eq (hu64 hr)) (pv_var (pv 0)) (pv_var (pv 1)) (nomark _)))))))), body_run h⟩)
theorem ok__law_equal (T : Txt K mg) : FnOk P w K mg base CX0 10 T.f__law_equal T.fd__law_equal ["x", "due"] (SpD K (m__law_equal 8)) := ok__law_equal_n T 8
theorem ok__law_line (T : Txt K mg) : FnOk P w K mg base CX0 1 T.f__law_line T.fd__law_line ["n"] (SpD K m__law_line) :=
  T.F__law_line.ok (k := 0) sc__law_line (fun vs H Q E h => SpD.len h) (fun cdv A outer s H vs Q E hr h => ⟨tS K S__law_line, PSs.nox (
    (ss_cons (s_set (ps_set (i := 1) sc__law_line.nd rfl (by first | exact Or.inl rfl | exact Or.inr rfl) (pu_tup pa_nil')))
    (ss_cons (s_for PassesOwn.never rfl (pi_rng1 (by rfl) T.z_range (pv_var (pv 0))) (pg_n (pg_name (i := 2) sc__law_line.nd rfl (by first | exact Or.inl rfl | exact Or.inr rfl))) (ss_one (s_set (ps_set (i := 1) sc__law_line.nd rfl (by first | exact Or.inl rfl | exact Or.inr rfl) (pu_bin o_add (pv_var (pv 1)) (PuE.v (pu_callTy b_tuple (by rfl) T.z_tuple bt_tuple (pav_cons (PuE.v (puF_e (pf_comp (own := [("b", 3)]) rfl sc__law_line.nd (pi_v (pi_rng2 (by rfl) T.z_range (PuE.v (pu_bin o_add (pv_var (pv 2)) (PuE.v pu_int))) (pv_var (pv 0)))) (blkOk_by (by kernel_rfl)) (by decide) (fun _ _ _ _ _ => (pg_n (pg_name (i := 3) sc__law_line.nd rfl (by first | exact Or.inl rfl | exact Or.inr rfl)))) (fun _ _ _ _ _ => pts_n) (fun _ _ _ _ _ => (pu_tup (pa_cons' (pu_var (pv 2)) (pa_cons' (pu_var (pv 3)) pa_nil'))))))) pav_nil))))))))
    (ss_one (s_ret (pu_tup (pa_cons' (pu_var (pv 0)) (pa_cons' (pu_tup (pa_cons' (pu_tup pa_nil') (pa_cons' (pu_tup pa_nil') pa_nil'))) (pa_cons' (pu_var (pv 1)) pa_nil'))))))))), body_run h⟩)
theorem ok__law_ring (T : Txt K mg) : FnOk P w K mg base CX0 1 T.f__law_ring T.fd__law_ring ["n"] (SpD K m__law_ring) :=
  T.F__law_ring.ok (k := 0) sc__law_ring (fun vs H Q E h => SpD.len h) (fun cdv A outer s H vs Q E hr h => ⟨tS K S__law_ring, PSs.nox (
    (ss_one (s_ret (pu_tup (pa_cons' (pu_var (pv 0)) (pa_cons' (pu_tup (pa_cons' (pu_tup pa_nil') (pa_cons' (pu_tup pa_nil') pa_nil'))) (pa_cons' (pu_callTy b_tuple (by rfl) T.z_tuple bt_tuple (pav_cons (PuE.v (pu_callB (b_sorted (hu68 hr)) (by rfl) T.z_sorted bt_sorted (pav_cons (PuE.v (puF_e (pf_comp (own := [("a", 1)]) rfl sc__law_ring.nd (pi_v (pi_rng1 (by rfl) T.z_range (pv_var (pv 0)))) (blkOk_by (by kernel_rfl)) (by decide) (fun _ _ _ _ _ => (pg_n (pg_name (i := 1) sc__law_ring.nd rfl (by first | exact Or.inl rfl | exact Or.inr rfl)))) (fun _ _ _ _ _ => pts_n) (fun _ _ _ _ _ => (pu_tup (pa_cons' (pu_var (pv 1)) (pa_cons' (pu_bin o_mod (PuE.v (pu_bin o_add (pv_var (pv 1)) (PuE.v pu_int))) (pv_var (pv 0))) pa_nil'))))))) pav_nil))) pav_nil)) pa_nil'))))))), body_run h⟩)
theorem ok__law_both_ways (T : Txt K mg) : FnOk P w K mg base CX0 1 T.f__law_both_ways T.fd__law_both_ways ["n", "edges"] (SpD K m__law_both_ways) :=
  T.F__law_both_ways.ok (k := 0) sc__law_both_ways (fun vs H Q E h => SpD.len h) (fun cdv A outer s H vs Q E hr h => ⟨tS K S__law_both_ways, PSs.nox (
    (ss_one (s_ret (pu_tup (pa_cons' (pu_var (pv 0)) (pa_cons' (pu_tup (pa_cons' (pu_tup pa_nil') (pa_cons' (pu_tup pa_nil') pa_nil'))) (pa_cons' (pu_callTy b_tuple (by rfl) T.z_tuple bt_tuple (pav_cons (PuE.v (pu_callB (b_sorted (hu68 hr)) (by rfl) T.z_sorted bt_sorted (pav_cons (PuE.v (pu_bin o_add (PuE.v (puF_e (pf_comp (own := [("pair", 2)]) rfl sc__law_both_ways.nd (piv_s (pv_var (pv 1))) (blkOk_by (by kernel_rfl)) (by decide) (fun _ _ _ _ _ => (pg_n (pg_name (i := 2) sc__law_both_ways.nd rfl (by first | exact Or.inl rfl | exact Or.inr rfl)))) (fun _ _ _ _ _ => pts_n) (fun _ _ _ _ _ => (pu_var (pv 2)))))) (PuE.v (puF_e (pf_comp (own := [("a", 3), ("b", 4)]) rfl sc__law_both_ways.nd (piv_s (pv_var (pv 1))) (blkOk_by (by kernel_rfl)) (by decide) (fun _ _ _ _ _ => (pg_t rfl (pgs_c (pg_n (pg_name (i := 3) sc__law_both_ways.nd rfl (by first | exact Or.inl rfl | exact Or.inr rfl))) (pgs_c (pg_n (pg_name (i := 4) sc__law_both_ways.nd rfl (by first | exact Or.inl rfl | exact Or.inr rfl))) pgs_n)) (fun ds ρ ρ' h => gsC_len (fun ds ρ ρ' h => gsC_len (fun ds ρ ρ' h => gsN_len h) h) h))) (fun _ _ _ _ _ => pts_n) (fun _ _ _ _ _ => (pu_tup (pa_cons' (pu_var (pv 4)) (pa_cons' (pu_var (pv 3)) pa_nil'))))))))) pav_nil))) pav_nil)) pa_nil'))))))), body_run h⟩)
theorem ok__law_special (T : Txt K mg) : FnOk P w K mg base CX0 2 T.f__law_special T.fd__law_special ["number"] (SpD K m__law_special) :=
  T.F__law_special.ok (k := 1) sc__law_special (fun vs H Q E h => SpD.len h) (fun cdv A outer s H vs Q E hr h => ⟨tS K S__law_special, PSs.nox (
    (ss_cons (s_set (ps_set (i := 1) sc__law_special.nd rfl (by first | exact Or.inl rfl | exact Or.inr rfl) (pu_lst (pa_cons' (pu_call ((ok__law_line T).mono (by omega)) hr (by rfl) T.g__law_line T.F__law_line.kp (bd__law_line T) (pa_cons' pu_int pa_nil')) (pa_cons' (pu_call ((ok__law_line T).mono (by omega)) hr (by rfl) T.g__law_line T.F__law_line.kp (bd__law_line T) (pa_cons' pu_int pa_nil')) (pa_cons' (pu_call ((ok__law_ring T).mono (by omega)) hr (by rfl) T.g__law_ring T.F__law_ring.kp (bd__law_ring T) (pa_cons' pu_int pa_nil')) (pa_cons' (pu_call ((ok__law_ring T).mono (by omega)) hr (by rfl) T.g__law_ring T.F__law_ring.kp (bd__law_ring T) (pa_cons' pu_int pa_nil')) (pa_cons' (pu_tup (pa_cons' pu_int (pa_cons' (pu_tup (pa_cons' (pu_tup pa_nil') (pa_cons' (pu_tup pa_nil') pa_nil'))) (pa_cons' (pu_tup pa_nil') pa_nil')))) (pa_cons' (pu_tup (pa_cons' pu_int (pa_cons' (pu_tup (pa_cons' (pu_tup pa_nil') (pa_cons' (pu_tup pa_nil') pa_nil'))) (pa_cons' (pu_tup pa_nil') pa_nil')))) (pa_cons' (pu_tup (pa_cons' pu_int (pa_cons' (pu_tup (pa_cons' (pu_tup pa_nil') (pa_cons' (pu_tup pa_nil') pa_nil'))) (pa_cons' (pu_tup pa_nil') pa_nil')))) pa_nil'))))))))))
    (ss_cons (s_set (ps_set (i := 1) sc__law_special.nd rfl (by first | exact Or.inl rfl | exact Or.inr rfl) (pu_bin o_add (pv_var (pv 1)) (PuE.v (pu_lst (pa_cons' (pu_call ((ok__law_both_ways T).mono (by omega)) hr (by rfl) T.g__law_both_ways T.F__law_both_ways.kp (bd__law_both_ways T) (pa_cons' pu_int (pa_cons' (pu_tup (pa_cons' (pu_tup (pa_cons' pu_int (pa_cons' pu_int pa_nil'))) (pa_cons' (pu_tup (pa_cons' pu_int (pa_cons' pu_int pa_nil'))) (pa_cons' (pu_tup (pa_cons' pu_int (pa_cons' pu_int pa_nil'))) pa_nil')))) pa_nil'))) (pa_cons' (pu_call ((ok__law_both_ways T).mono (by omega)) hr (by rfl) T.g__law_both_ways T.F__law_both_ways.kp (bd__law_both_ways T) (pa_cons' pu_int (pa_cons' (pu_tup (pa_cons' (pu_tup (pa_cons' pu_int (pa_cons' pu_int pa_nil'))) (pa_cons' (pu_tup (pa_cons' pu_int (pa_cons' pu_int pa_nil'))) (pa_cons' (pu_tup (pa_cons' pu_int (pa_cons' pu_int pa_nil'))) (pa_cons' (pu_tup (pa_cons' pu_int (pa_cons' pu_int pa_nil'))) pa_nil'))))) pa_nil'))) (pa_cons' (pu_call ((ok__law_both_ways T).mono (by omega)) hr (by rfl) T.g__law_both_ways T.F__law_both_ways.kp (bd__law_both_ways T) (pa_cons' pu_int (pa_cons' (pu_tup (pa_cons' (pu_tup (pa_cons' pu_int (pa_cons' pu_int pa_nil'))) (pa_cons' (pu_tup (pa_cons' pu_int (pa_cons' pu_int pa_nil'))) (pa_cons' (pu_tup (pa_cons' pu_int (pa_cons' pu_int pa_nil'))) pa_nil')))) pa_nil'))) pa_nil'))))))))
    (ss_one (s_ret (pu_ix o_ix (pv_var (pv 1)) (PuE.v (pu_bin o_mod (pv_var (pv 0)) (PuE.v (pu_callB b_len (by rfl) T.z_len bt_len (pav_cons (pv_var (pv 1)) pav_nil))))) (fun _ _ => rfl))))))), body_run h⟩)
theorem ok__law_world (T : Txt K mg) : FnOk P w K mg base CX0 3 T.f__law_world T.fd__law_world ["draws", "most"] (SpD K m__law_world) :=
  T.F__law_world.ok (k := 2) sc__law_world (fun vs H Q E h => SpD.len h) (fun cdv A outer s H vs Q E hr h => ⟨tS K S__law_world, PSs.nox (
    (ss_cons (s_set (ps_set (i := 2) sc__law_world.nd rfl (by first | exact Or.inl rfl | exact Or.inr rfl) (pu_bin o_add (PuE.v pu_int) (PuE.v (pu_bin o_mod (PuE.v (pu_callTy b_int (by rfl) T.z_int bt_int (pav_cons (PuE.v (pu_ix o_ix (pv_var (pv 0)) (PuE.v pu_int) (fun _ _ => rfl))) pav_nil))) (pv_var (pv 1)))))))
    (ss_cons (s_if (PW.pt (pw_and' (pt_cmp' (o_eq (hu64 hr)) (PuE.v (pu_bin o_mod (PuE.v (pu_ix o_ix (pv_var (pv 0)) (PuE.v pu_int) (fun _ _ => rfl))) (PuE.v pu_int))) (PuE.v pu_int) (nomark _)) (pw_and1' (pt_cmp' o_le (PuE.v (pu_ix o_ix (PuE.v (pu_call ((ok__law_special T).mono (by omega)) hr (by rfl) T.g__law_special T.F__law_special.kp (bd__law_special T) (pa_cons' (pu_callTy b_int (by rfl) T.z_int bt_int (pav_cons (PuE.v (pu_ix o_ix (pv_var (pv 0)) (PuE.v pu_int) (fun _ _ => rfl))) pav_nil)) pa_nil'))) (PuE.v pu_int) (fun _ _ => rfl))) (pv_var (pv 1)) (nomark _))))) (ss_one (s_ret (pu_call ((ok__law_special T).mono (by omega)) hr (by rfl) T.g__law_special T.F__law_special.kp (bd__law_special T) (pa_cons' (pu_callTy b_int (by rfl) T.z_int bt_int (pav_cons (PuE.v (pu_ix o_ix (pv_var (pv 0)) (PuE.v pu_int) (fun _ _ => rfl))) pav_nil)) pa_nil')))) ss_nil)
    (ss_cons (s_set (ps_set (i := 3) sc__law_world.nd rfl (by first | exact Or.inl rfl | exact Or.inr rfl) (pu_ix o_ix (PuE.v (pu_lst (pa_cons' pu_int (pa_cons' pu_int (pa_cons' pu_int (pa_cons' pu_int pa_nil')))))) (PuE.v (pu_bin o_mod (PuE.v (pu_bin o_fdiv (PuE.v (pu_callTy b_int (by rfl) T.z_int bt_int (pav_cons (PuE.v (pu_ix o_ix (pv_var (pv 0)) (PuE.v pu_int) (fun _ _ => rfl))) pav_nil))) (PuE.v pu_int))) (PuE.v pu_int))) (fun _ _ => rfl))))
    (ss_cons (s_set (ps_set (i := 4) sc__law_world.nd rfl (by first | exact Or.inl rfl | exact Or.inr rfl) (pu_ix o_ix (PuE.v (pu_lst (pa_cons' pu_int (pa_cons' pu_int (pa_cons' pu_int (pa_cons' pu_int pa_nil')))))) (PuE.v (pu_bin o_mod (PuE.v (pu_bin o_fdiv (PuE.v (pu_callTy b_int (by rfl) T.z_int bt_int (pav_cons (PuE.v (pu_ix o_ix (pv_var (pv 0)) (PuE.v pu_int) (fun _ _ => rfl))) pav_nil))) (PuE.v pu_int))) (PuE.v pu_int))) (fun _ _ => rfl))))
    (ss_cons (s_set (ps_set (i := 5) sc__law_world.nd rfl (by first | exact Or.inl rfl | exact Or.inr rfl) (pu_tup pa_nil')))
    (ss_cons (s_for PassesOwn.never rfl (pi_rng1 (by rfl) T.z_range (PuE.v pu_int)) (pg_n (pg_name (i := 6) sc__law_world.nd rfl (by first | exact Or.inl rfl | exact Or.inr rfl))) (ss_one (s_set (ps_set (i := 5) sc__law_world.nd rfl (by first | exact Or.inl rfl | exact Or.inr rfl) (pu_bin o_add (pv_var (pv 5)) (PuE.v (pu_tup (pa_cons' (pu_callTy b_tuple (by rfl) T.z_tuple bt_tuple (pav_cons (PuE.v (puF_e (pf_comp (own := [("a", 9)]) rfl sc__law_world.nd (pi_v (pi_rng1 (by rfl) T.z_range (pv_var (pv 2)))) (blkOk_by (by kernel_rfl)) (by decide) (fun _ _ _ _ _ => (pg_n (pg_name (i := 9) sc__law_world.nd rfl (by first | exact Or.inl rfl | exact Or.inr rfl)))) (fun _ _ _ _ _ => (pts_1 (pt_cmp' (o_eq (hu64 hr)) (PuE.v (pu_bin o_mod (PuE.v (pu_bin o_fdiv (PuE.v (pu_callTy b_int (by rfl) T.z_int bt_int (pav_cons (PuE.v (pu_ix o_ix (pv_var (pv 0)) (PuE.v (pu_bin o_add (PuE.v pu_int) (pv_var (pv 9)))) (fun _ _ => rfl))) pav_nil))) (PuE.v (pu_bin o_add (PuE.v pu_int) (pv_var (pv 6)))))) (pv_var (pv 4)))) (PuE.v pu_int) (nomark _)))) (fun _ _ _ _ _ => (pu_var (pv 9)))))) pav_nil)) pa_nil'))))))))
    (ss_cons (s_new (ps_set (i := 7) sc__law_world.nd rfl (by first | exact Or.inl rfl | exact Or.inr rfl) (pf_lst pa_nil')))
    (ss_cons (s_set (ps_set (i := 8) sc__law_world.nd rfl (by first | exact Or.inl rfl | exact Or.inr rfl) pu_int))
    (ss_cons (s_for PassesOwn.never rfl (pi_rng1 (by rfl) T.z_range (pv_var (pv 2))) (pg_n (pg_name (i := 9) sc__law_world.nd rfl (by first | exact Or.inl rfl | exact Or.inr rfl))) (ss_one (s_for PassesOwn.never rfl (pi_rng1 (by rfl) T.z_range (pv_var (pv 2))) (pg_n (pg_name (i := 10) sc__law_world.nd rfl (by first | exact Or.inl rfl | exact Or.inr rfl))) (ss_cons (s_if (pt_cmp' (o_eq (hu64 hr)) (PuE.v (pu_bin o_mod (PuE.v (pu_bin o_fdiv (PuE.v (pu_callTy b_int (by rfl) T.z_int bt_int (pav_cons (PuE.v (pu_ix o_ix (pv_var (pv 0)) (PuE.v (pu_bin o_mod (pv_var (pv 8)) (PuE.v (pu_callB b_len (by rfl) T.z_len bt_len (pav_cons (pv_var (pv 0)) pav_nil))))) (fun _ _ => rfl))) pav_nil))) (PuE.v (pu_bin o_add (PuE.v pu_int) (PuE.v (pu_bin o_fdiv (pv_var (pv 8)) (PuE.v (pu_callB b_len (by rfl) T.z_len bt_len (pav_cons (pv_var (pv 0)) pav_nil))))))))) (pv_var (pv 3)))) (PuE.v pu_int) (nomark _)) (ss_one (s_app (pv 7) (pu_tup (pa_cons' (pu_var (pv 9)) (pa_cons' (pu_var (pv 10)) pa_nil'))))) ss_nil)
    (ss_one (s_set (ps_set (i := 8) sc__law_world.nd rfl (by first | exact Or.inl rfl | exact Or.inr rfl) (pu_bin o_add (pv_var (pv 8)) (PuE.v pu_int)))))))))
    (ss_cons (s_if (pt_cmp' (o_eq (hu64 hr)) (PuE.v (pu_bin o_mod (PuE.v (pu_ix o_ix (pv_var (pv 0)) (PuE.v pu_int) (fun _ _ => rfl))) (PuE.v pu_int))) (PuE.v pu_int) (nomark _)) (ss_cons (s_new (ps_set (i := 7) sc__law_world.nd rfl (by first | exact Or.inl rfl | exact Or.inr rfl) (pf_cat (pv_var (pv 7)) (PuE.v (puF_e (pf_comp (own := [("a", 9), ("b", 10)]) rfl sc__law_world.nd (piv_s (pv_var (pv 7))) (blkOk_by (by kernel_rfl)) (by decide) (fun _ _ _ _ _ => (pg_t rfl (pgs_c (pg_n (pg_name (i := 9) sc__law_world.nd rfl (by first | exact Or.inl rfl | exact Or.inr rfl))) (pgs_c (pg_n (pg_name (i := 10) sc__law_world.nd rfl (by first | exact Or.inl rfl | exact Or.inr rfl))) pgs_n)) (fun ds ρ ρ' h => gsC_len (fun ds ρ ρ' h => gsC_len (fun ds ρ ρ' h => gsN_len h) h) h))) (fun _ _ _ _ _ => (pts_1 (pt_cmp' (o_notIn (hu65 hr)) (PuE.v (pu_tup (pa_cons' (pu_var (pv 10)) (pa_cons' (pu_var (pv 9)) pa_nil')))) (pv_var (pv 7)) (by rfl)))) (fun _ _ _ _ _ => (pu_tup (pa_cons' (pu_var (pv 10)) (pa_cons' (pu_var (pv 9)) pa_nil'))))))))))
    (ss_one (s_new (ps_set (i := 7) sc__law_world.nd rfl (by first | exact Or.inl rfl | exact Or.inr rfl) (pf_comp (own := [("a", 9), ("b", 10)]) rfl sc__law_world.nd (piv_s (pv_var (pv 7))) (blkOk_by (by kernel_rfl)) (by decide) (fun _ _ _ _ _ => (pg_t rfl (pgs_c (pg_n (pg_name (i := 9) sc__law_world.nd rfl (by first | exact Or.inl rfl | exact Or.inr rfl))) (pgs_c (pg_n (pg_name (i := 10) sc__law_world.nd rfl (by first | exact Or.inl rfl | exact Or.inr rfl))) pgs_n)) (fun ds ρ ρ' h => gsC_len (fun ds ρ ρ' h => gsC_len (fun ds ρ ρ' h => gsN_len h) h) h))) (fun _ _ _ _ _ => (pts_1 (pt_cmp' (o_ne (hu64 hr)) (pv_var (pv 9)) (pv_var (pv 10)) (nomark _)))) (fun _ _ _ _ _ => (pu_tup (pa_cons' (pu_var (pv 9)) (pa_cons' (pu_var (pv 10)) pa_nil'))))))))) ss_nil)
    (ss_one (s_ret (pu_tup (pa_cons' (pu_var (pv 2)) (pa_cons' (pu_var (pv 5)) (pa_cons' (pu_callTy b_tuple (by rfl) T.z_tuple bt_tuple (pav_cons (PuE.v (pu_callB (b_sorted (hu68 hr)) (by rfl) T.z_sorted bt_sorted (pav_cons (pv_var (pv 7)) pav_nil))) pav_nil)) pa_nil'))))))))))))))))), body_run h⟩)
theorem ok__law_tuples (T : Txt K mg) : FnOk P w K mg base CX0 1 T.f__law_tuples T.fd__law_tuples ["n", "size"] (SpD K m__law_tuples) :=
  T.F__law_tuples.ok (k := 0) sc__law_tuples (fun vs H Q E h => SpD.len h) (fun cdv A outer s H vs Q E hr h => ⟨tS K S__law_tuples, PSs.nox (
    (ss_cons (s_set (ps_set (i := 2) sc__law_tuples.nd rfl (by first | exact Or.inl rfl | exact Or.inr rfl) (pu_lst (pa_cons' (pu_tup pa_nil') pa_nil'))))
    (ss_cons (s_for PassesOwn.never rfl (pi_rng1 (by rfl) T.z_range (pv_var (pv 1))) (pg_n (pg_name (i := 3) sc__law_tuples.nd rfl (by first | exact Or.inl rfl | exact Or.inr rfl))) (ss_cons (s_set (ps_set (i := 4) sc__law_tuples.nd rfl (by first | exact Or.inl rfl | exact Or.inr rfl) (pu_lst pa_nil')))
    (ss_cons (s_for PassesOwn.never rfl (pi_s (pu_var (pv 2))) (pg_n (pg_name (i := 5) sc__law_tuples.nd rfl (by first | exact Or.inl rfl | exact Or.inr rfl))) (ss_one (s_set (ps_set (i := 4) sc__law_tuples.nd rfl (by first | exact Or.inl rfl | exact Or.inr rfl) (pu_bin o_add (pv_var (pv 4)) (PuE.v (puF_e (pf_comp (own := [("item", 6)]) rfl sc__law_tuples.nd (pi_v (pi_rng1 (by rfl) T.z_range (pv_var (pv 0)))) (blkOk_by (by kernel_rfl)) (by decide) (fun _ _ _ _ _ => (pg_n (pg_name (i := 6) sc__law_tuples.nd rfl (by first | exact Or.inl rfl | exact Or.inr rfl)))) (fun _ _ _ _ _ => pts_n) (fun _ _ _ _ _ => (pu_bin o_add (pv_var (pv 5)) (PuE.v (pu_tup (pa_cons' (pu_var (pv 6)) pa_nil')))))))))))))
    (ss_one (s_set (ps_set (i := 2) sc__law_tuples.nd rfl (by first | exact Or.inl rfl | exact Or.inr rfl) (pu_var (pv 4))))))))
    (ss_one (s_ret (pu_var (pv 2))))))), body_run h⟩)
theorem ok__law_unlike (T : Txt K mg) : FnOk P w K mg base CX0 1 T.f__law_unlike T.fd__law_unlike ["items"] (SpD K m__law_unlike) :=
  T.F__law_unlike.ok (k := 0) sc__law_unlike (fun vs H Q E h => SpD.len h) (fun cdv A outer s H vs Q E hr h => ⟨tS K S__law_unlike, PSs.nox (
    (ss_cons (s_new (ps_set (i := 1) sc__law_unlike.nd rfl (by first | exact Or.inl rfl | exact Or.inr rfl) (pf_lst pa_nil')))
    (ss_cons (s_for PassesOwn.never rfl (pi_s (pu_callB (b_sorted (hu68 hr)) (by rfl) T.z_sorted bt_sorted (pav_cons (pv_var (pv 0)) pav_nil))) (pg_n (pg_name (i := 2) sc__law_unlike.nd rfl (by first | exact Or.inl rfl | exact Or.inr rfl))) (ss_one (s_if (pt_cmp' (o_notIn (hu65 hr)) (pv_var (pv 2)) (pv_var (pv 1)) (by rfl)) (ss_one (s_app (pv 1) (pu_var (pv 2)))) ss_nil)))
    (ss_one (s_ret (pu_callTy b_tuple (by rfl) T.z_tuple bt_tuple (pav_cons (pv_var (pv 1)) pav_nil))))))), body_run h⟩)
theorem ok__law_fit (T : Txt K mg) : FnOk P w K mg base CX0 1 T.f__law_fit T.fd__law_fit ["one", "two", "x", "y"] (SpD K m__law_fit) :=
  T.F__law_fit.ok (k := 0) sc__law_fit (fun vs H Q E h => SpD.len h) (fun cdv A outer s H vs Q E hr h => ⟨tS K S__law_fit, PSs.nox (
    (ss_cons (s_asg (pu_var (pv 2)) (pg_t rfl (pgs_c (pg_n (pg_name (i := 4) sc__law_fit.nd rfl (by first | exact Or.inl rfl | exact Or.inr rfl))) (pgs_c (pg_n (pg_name (i := 5) sc__law_fit.nd rfl (by first | exact Or.inl rfl | exact Or.inr rfl))) pgs_n)) (fun ds ρ ρ' h => gsC_len (fun ds ρ ρ' h => gsC_len (fun ds ρ ρ' h => gsN_len h) h) h)))
    (ss_cons (s_asg (pu_var (pv 3)) (pg_t rfl (pgs_c (pg_n (pg_name (i := 6) sc__law_fit.nd rfl (by first | exact Or.inl rfl | exact Or.inr rfl))) (pgs_c (pg_n (pg_name (i := 7) sc__law_fit.nd rfl (by first | exact Or.inl rfl | exact Or.inr rfl))) pgs_n)) (fun ds ρ ρ' h => gsC_len (fun ds ρ ρ' h => gsC_len (fun ds ρ ρ' h => gsN_len h) h) h)))
    (ss_cons (s_if (pt_cmp' (o_ne (hu64 hr)) (PuE.v (pu_cmp (o_eq (hu64 hr)) (pv_var (pv 4)) (pv_var (pv 6)) (nomark _))) (PuE.v (pu_cmp (o_eq (hu64 hr)) (pv_var (pv 5)) (pv_var (pv 7)) (nomark _))) (nomark _)) (ss_one (s_ret pu_bl)) ss_nil)
    (ss_cons (s_if (PW.pt (pw_or' (pt_cmp' (o_ne (hu64 hr)) (PuE.v (pu_cmp (o_in (hu65 hr)) (pv_var (pv 4)) (PuE.v (pu_ix o_ix (PuE.v (pu_ix o_ix (pv_var (pv 0)) (PuE.v pu_int) (fun _ _ => rfl))) (PuE.v pu_int) (fun _ _ => rfl))) (by rfl))) (PuE.v (pu_cmp (o_in (hu65 hr)) (pv_var (pv 5)) (PuE.v (pu_ix o_ix (PuE.v (pu_ix o_ix (pv_var (pv 1)) (PuE.v pu_int) (fun _ _ => rfl))) (PuE.v pu_int) (fun _ _ => rfl))) (by rfl))) (nomark _)) (pw_or1' (pt_cmp' (o_ne (hu64 hr)) (PuE.v (pu_cmp (o_in (hu65 hr)) (pv_var (pv 4)) (PuE.v (pu_ix o_ix (PuE.v (pu_ix o_ix (pv_var (pv 0)) (PuE.v pu_int) (fun _ _ => rfl))) (PuE.v pu_int) (fun _ _ => rfl))) (by rfl))) (PuE.v (pu_cmp (o_in (hu65 hr)) (pv_var (pv 5)) (PuE.v (pu_ix o_ix (PuE.v (pu_ix o_ix (pv_var (pv 1)) (PuE.v pu_int) (fun _ _ => rfl))) (PuE.v pu_int) (fun _ _ => rfl))) (by rfl))) (nomark _))))) (ss_one (s_ret pu_bl)) ss_nil)
    (ss_one (s_ret (pu_and (pu_cmp (o_eq (hu64 hr)) (PuE.v (pu_cmp (o_in (hu65 hr)) (PuE.v (pu_tup (pa_cons' (pu_var (pv 4)) (pa_cons' (pu_var (pv 6)) pa_nil')))) (PuE.v (pu_ix o_ix (pv_var (pv 0)) (PuE.v pu_int) (fun _ _ => rfl))) (by rfl))) (PuE.v (pu_cmp (o_in (hu65 hr)) (PuE.v (pu_tup (pa_cons' (pu_var (pv 5)) (pa_cons' (pu_var (pv 7)) pa_nil')))) (PuE.v (pu_ix o_ix (pv_var (pv 1)) (PuE.v pu_int) (fun _ _ => rfl))) (by rfl))) (nomark _)) (pu_one (pu_cmp (o_eq (hu64 hr)) (PuE.v (pu_cmp (o_in (hu65 hr)) (PuE.v (pu_tup (pa_cons' (pu_var (pv 6)) (pa_cons' (pu_var (pv 4)) pa_nil')))) (PuE.v (pu_ix o_ix (pv_var (pv 0)) (PuE.v pu_int) (fun _ _ => rfl))) (by rfl))) (PuE.v (pu_cmp (o_in (hu65 hr)) (PuE.v (pu_tup (pa_cons' (pu_var (pv 7)) (pa_cons' (pu_var (pv 5)) pa_nil')))) (PuE.v (pu_ix o_ix (pv_var (pv 1)) (PuE.v pu_int) (fun _ _ => rfl))) (by rfl))) (nomark _))))))))))), body_run h⟩)
theorem ok__law_carry (T : Txt K mg) : FnOk P w K mg base CX0 1 T.f__law_carry T.fd__law_carry ["one", "two", "x", "y"] (SpD K m__law_carry) :=
  T.F__law_carry.ok (k := 0) sc__law_carry (fun vs H Q E h => SpD.len h) (fun cdv A outer s H vs Q E hr h => ⟨tS K S__law_carry, PSs.nox (
    (ss_cons (s_asg (pu_var (pv 2)) (pg_t rfl (pgs_c (pg_n (pg_name (i := 4) sc__law_carry.nd rfl (by first | exact Or.inl rfl | exact Or.inr rfl))) (pgs_c (pg_n (pg_name (i := 5) sc__law_carry.nd rfl (by first | exact Or.inl rfl | exact Or.inr rfl))) pgs_n)) (fun ds ρ ρ' h => gsC_len (fun ds ρ ρ' h => gsC_len (fun ds ρ ρ' h => gsN_len h) h) h)))
    (ss_cons (s_asg (pu_var (pv 3)) (pg_t rfl (pgs_c (pg_n (pg_name (i := 6) sc__law_carry.nd rfl (by first | exact Or.inl rfl | exact Or.inr rfl))) (pgs_c (pg_n (pg_name (i := 7) sc__law_carry.nd rfl (by first | exact Or.inl rfl | exact Or.inr rfl))) pgs_n)) (fun ds ρ ρ' h => gsC_len (fun ds ρ ρ' h => gsC_len (fun ds ρ ρ' h => gsN_len h) h) h)))
    (ss_cons (s_if (PW.pt (pw_or' (PW.pt (pw_and' (pt_cmp' (o_eq (hu64 hr)) (pv_var (pv 4)) (pv_var (pv 6)) (nomark _)) (pw_and1' (pt_cmp' (o_ne (hu64 hr)) (pv_var (pv 5)) (pv_var (pv 7)) (nomark _))))) (pw_or' (PW.pt (pw_and' (pt_cmp' (o_in (hu65 hr)) (pv_var (pv 4)) (PuE.v (pu_ix o_ix (PuE.v (pu_ix o_ix (pv_var (pv 0)) (PuE.v pu_int) (fun _ _ => rfl))) (PuE.v pu_int) (fun _ _ => rfl))) (by rfl)) (pw_and1' (pt_cmp' (o_notIn (hu65 hr)) (pv_var (pv 5)) (PuE.v (pu_ix o_ix (PuE.v (pu_ix o_ix (pv_var (pv 1)) (PuE.v pu_int) (fun _ _ => rfl))) (PuE.v pu_int) (fun _ _ => rfl))) (by rfl))))) (pw_or1' (PW.pt (pw_and' (pt_cmp' (o_in (hu65 hr)) (pv_var (pv 4)) (PuE.v (pu_ix o_ix (PuE.v (pu_ix o_ix (pv_var (pv 0)) (PuE.v pu_int) (fun _ _ => rfl))) (PuE.v pu_int) (fun _ _ => rfl))) (by rfl)) (pw_and1' (pt_cmp' (o_notIn (hu65 hr)) (pv_var (pv 5)) (PuE.v (pu_ix o_ix (PuE.v (pu_ix o_ix (pv_var (pv 1)) (PuE.v pu_int) (fun _ _ => rfl))) (PuE.v pu_int) (fun _ _ => rfl))) (by rfl))))))))) (ss_one (s_ret pu_bl)) ss_nil)
    (ss_one (s_ret (pu_and (pu_not (pu_and (pu_cmp (o_in (hu65 hr)) (PuE.v (pu_tup (pa_cons' (pu_var (pv 4)) (pa_cons' (pu_var (pv 6)) pa_nil')))) (PuE.v (pu_ix o_ix (pv_var (pv 0)) (PuE.v pu_int) (fun _ _ => rfl))) (by rfl)) (pu_one (pu_cmp (o_notIn (hu65 hr)) (PuE.v (pu_tup (pa_cons' (pu_var (pv 5)) (pa_cons' (pu_var (pv 7)) pa_nil')))) (PuE.v (pu_ix o_ix (pv_var (pv 1)) (PuE.v pu_int) (fun _ _ => rfl))) (by rfl))))) (pu_one (pu_not (pu_and (pu_cmp (o_in (hu65 hr)) (PuE.v (pu_tup (pa_cons' (pu_var (pv 6)) (pa_cons' (pu_var (pv 4)) pa_nil')))) (PuE.v (pu_ix o_ix (pv_var (pv 0)) (PuE.v pu_int) (fun _ _ => rfl))) (by rfl)) (pu_one (pu_cmp (o_notIn (hu65 hr)) (PuE.v (pu_tup (pa_cons' (pu_var (pv 7)) (pa_cons' (pu_var (pv 5)) pa_nil')))) (PuE.v (pu_ix o_ix (pv_var (pv 1)) (PuE.v pu_int) (fun _ _ => rfl))) (by rfl))))))))))))), body_run h⟩)
theorem ok__law_goes (T : Txt K mg) : FnOk P w K mg base CX0 2 T.f__law_goes T.fd__law_goes ["one", "two", "pairs", "way"] (SpD K m__law_goes) :=
  T.F__law_goes.ok (k := 1) sc__law_goes (fun vs H Q E h => SpD.len h) (fun cdv A outer s H vs Q E hr h => ⟨tS K S__law_goes, PSs.nox (
    (ss_cons (s_for PassesOwn.never rfl (pi_s (pu_var (pv 2))) (pg_n (pg_name (i := 4) sc__law_goes.nd rfl (by first | exact Or.inl rfl | exact Or.inr rfl))) (ss_cons (s_if (PW.pt (pw_and' (pt_cmp' (o_eq (hu64 hr)) (pv_var (pv 3)) (PuE.v pu_int) (nomark _)) (pw_and1' (pt_cmp' o_gt (PuE.v (pu_callB b_len (by rfl) T.z_len bt_len (pav_cons (PuE.v (puF_e (pf_comp (own := [("y", 5)]) rfl sc__law_goes.nd (piv_s (pv_var (pv 2))) (blkOk_by (by kernel_rfl)) (by decide) (fun _ _ _ _ _ => (pg_n (pg_name (i := 5) sc__law_goes.nd rfl (by first | exact Or.inl rfl | exact Or.inr rfl)))) (fun _ _ _ _ _ => (pts_1 (pt_not' (pt_tru (PuE.v (pu_call ((ok__law_fit T).mono (by omega)) hr (by rfl) T.g__law_fit T.F__law_fit.kp (bd__law_fit T) (pa_cons' (pu_var (pv 0)) (pa_cons' (pu_var (pv 1)) (pa_cons' (pu_var (pv 4)) (pa_cons' (pu_var (pv 5)) pa_nil')))))))))) (fun _ _ _ _ _ => (pu_var (pv 5)))))) pav_nil))) (PuE.v pu_int) (nomark _))))) (ss_one (s_ret pu_bl)) ss_nil)
    (ss_one (s_if (PW.pt (pw_and' (pt_cmp' (o_eq (hu64 hr)) (pv_var (pv 3)) (PuE.v pu_int) (nomark _)) (pw_and1' (pt_cmp' o_gt (PuE.v (pu_callB b_len (by rfl) T.z_len bt_len (pav_cons (PuE.v (puF_e (pf_comp (own := [("y", 5)]) rfl sc__law_goes.nd (piv_s (pv_var (pv 2))) (blkOk_by (by kernel_rfl)) (by decide) (fun _ _ _ _ _ => (pg_n (pg_name (i := 5) sc__law_goes.nd rfl (by first | exact Or.inl rfl | exact Or.inr rfl)))) (fun _ _ _ _ _ => (pts_1 (pt_not' (pt_tru (PuE.v (pu_call ((ok__law_carry T).mono (by omega)) hr (by rfl) T.g__law_carry T.F__law_carry.kp (bd__law_carry T) (pa_cons' (pu_var (pv 0)) (pa_cons' (pu_var (pv 1)) (pa_cons' (pu_var (pv 4)) (pa_cons' (pu_var (pv 5)) pa_nil')))))))))) (fun _ _ _ _ _ => (pu_var (pv 5)))))) pav_nil))) (PuE.v pu_int) (nomark _))))) (ss_one (s_ret pu_bl)) ss_nil))))
    (ss_one (s_ret pu_bl)))), body_run h⟩)
theorem ok__law_ways (T : Txt K mg) : FnOk P w K mg base CX0 3 T.f__law_ways T.fd__law_ways ["one", "two", "way"] (SpD K m__law_ways) :=
  T.F__law_ways.ok (k := 2) sc__law_ways (fun vs H Q E h => SpD.len h) (fun cdv A outer s H vs Q E hr h => ⟨tS K S__law_ways, PSs.nox (
    (ss_cons (s_set (ps_set (i := 3) sc__law_ways.nd rfl (by first | exact Or.inl rfl | exact Or.inr rfl) (pu_lst (pa_cons' (pu_tup pa_nil') pa_nil'))))
    (ss_cons (s_for PassesOwn.never rfl (pi_rng1 (by rfl) T.z_range (PuE.v (pu_ix o_ix (pv_var (pv 0)) (PuE.v pu_int) (fun _ _ => rfl)))) (pg_n (pg_name (i := 4) sc__law_ways.nd rfl (by first | exact Or.inl rfl | exact Or.inr rfl))) (ss_cons (s_new (ps_set (i := 5) sc__law_ways.nd rfl (by first | exact Or.inl rfl | exact Or.inr rfl) (pf_lst pa_nil')))
    (ss_cons (s_for PassesOwn.never rfl (pi_s (pu_var (pv 3))) (pg_n (pg_name (i := 6) sc__law_ways.nd rfl (by first | exact Or.inl rfl | exact Or.inr rfl))) (ss_one (s_for PassesOwn.never rfl (pi_rng1 (by rfl) T.z_range (PuE.v (pu_ix o_ix (pv_var (pv 1)) (PuE.v pu_int) (fun _ _ => rfl)))) (pg_n (pg_name (i := 7) sc__law_ways.nd rfl (by first | exact Or.inl rfl | exact Or.inr rfl))) (ss_cons (s_set (ps_set (i := 8) sc__law_ways.nd rfl (by first | exact Or.inl rfl | exact Or.inr rfl) (pu_bin o_add (PuE.v (pu_callTy b_tuple (by rfl) T.z_tuple bt_tuple (pav_cons (PuE.v (puF_e (pf_comp (own := [("j", 9)]) rfl sc__law_ways.nd (pi_v (pi_rng1 (by rfl) T.z_range (pv_var (pv 4)))) (blkOk_by (by kernel_rfl)) (by decide) (fun _ _ _ _ _ => (pg_n (pg_name (i := 9) sc__law_ways.nd rfl (by first | exact Or.inl rfl | exact Or.inr rfl)))) (fun _ _ _ _ _ => pts_n) (fun _ _ _ _ _ => (pu_tup (pa_cons' (pu_var (pv 9)) (pa_cons' (pu_ix o_ix (pv_var (pv 6)) (pv_var (pv 9)) (fun _ _ => rfl)) pa_nil'))))))) pav_nil))) (PuE.v (pu_tup (pa_cons' (pu_tup (pa_cons' (pu_var (pv 4)) (pa_cons' (pu_var (pv 7)) pa_nil'))) pa_nil'))))))
    (ss_one (s_if (pt_tru (PuE.v (pu_call ((ok__law_goes T).mono (by omega)) hr (by rfl) T.g__law_goes T.F__law_goes.kp (bd__law_goes T) (pa_cons' (pu_var (pv 0)) (pa_cons' (pu_var (pv 1)) (pa_cons' (pu_var (pv 8)) (pa_cons' (pu_var (pv 2)) pa_nil'))))))) (ss_one (s_app (pv 5) (pu_bin o_add (pv_var (pv 6)) (PuE.v (pu_tup (pa_cons' (pu_var (pv 7)) pa_nil')))))) ss_nil))))))
    (ss_one (s_frz 5 (s_set (ps_set (i := 3) sc__law_ways.nd rfl (by first | exact Or.inl rfl | exact Or.inr rfl) (pu_var (pv 5)))))))))
    (ss_one (s_ret (pu_var (pv 3))))))), body_run h⟩)
theorem ok_law (T : Txt K mg) : FnOk P w K mg base CX0 13 T.f_law T.fd_law ["script"] (SpD K m_law) :=
  T.F_law.ok (k := 12) sc_law (fun vs H Q E h => SpD.len h) (fun cdv A outer s H vs Q E hr h => ⟨tS K S_law, PSs.nox (
    (ss_cons (s_set (ps_set (i := 1) sc_law.nd rfl (by first | exact Or.inl rfl | exact Or.inr rfl) (pu_call ((ok__law_draws T).mono (by omega)) hr (by rfl) T.g__law_draws T.F__law_draws.kp (bd__law_draws T) (pa_cons' (pu_call ((ok__law_cell T).mono (by omega)) hr (by rfl) T.g__law_cell T.F__law_cell.kp (bd__law_cell T) (pa_cons' (pu_var (pv 0)) (pa_cons' pu_int pa_nil'))) (pa_cons' pu_int pa_nil')))))
    (ss_cons (s_set (ps_set (i := 2) sc_law.nd rfl (by first | exact Or.inl rfl | exact Or.inr rfl) (pu_call ((ok__law_world T).mono (by omega)) hr (by rfl) T.g__law_world T.F__law_world.kp (bd__law_world T) (pa_cons' (pu_var (pv 1)) (pa_cons' pu_int pa_nil')))))
    (ss_cons (s_set (ps_set (i := 3) sc_law.nd rfl (by first | exact Or.inl rfl | exact Or.inr rfl) (pu_bin o_mod (PuE.v (pu_ix o_ix (pv_var (pv 1)) (PuE.v pu_int) (fun _ _ => rfl))) (PuE.v pu_int))))
    (ss_cons (s_set (ps_set (i := 4) sc_law.nd rfl (by first | exact Or.inl rfl | exact Or.inr rfl) (pu_call ((ok__law_ways T).mono (by omega)) hr (by rfl) T.g__law_ways T.F__law_ways.kp (bd__law_ways T) (pa_cons' (pu_var (pv 2)) (pa_cons' (pu_var (pv 2)) (pa_cons' pu_int pa_nil'))))))
    (ss_cons (s_new (ps_set (i := 5) sc_law.nd rfl (by first | exact Or.inl rfl | exact Or.inr rfl) (pf_lst pa_nil')))
    (ss_cons (s_for PassesOwn.never rfl (pi_s (pu_call ((ok__law_tuples T).mono (by omega)) hr (by rfl) T.g__law_tuples T.F__law_tuples.kp (bd__law_tuples T) (pa_cons' (pu_ix o_ix (pv_var (pv 2)) (PuE.v pu_int) (fun _ _ => rfl)) (pa_cons' (pu_var (pv 3)) pa_nil')))) (pg_n (pg_name (i := 6) sc_law.nd rfl (by first | exact Or.inl rfl | exact Or.inr rfl))) (ss_cons (s_set (ps_set (i := 7) sc_law.nd rfl (by first | exact Or.inl rfl | exact Or.inr rfl) (pu_call ((ok__law_unlike T).mono (by omega)) hr (by rfl) T.g__law_unlike T.F__law_unlike.kp (bd__law_unlike T) (pa_cons' (puF_e (pf_comp (own := [("name", 8)]) rfl sc_law.nd (piv_s (pv_var (pv 4))) (blkOk_by (by kernel_rfl)) (by decide) (fun _ _ _ _ _ => (pg_n (pg_name (i := 8) sc_law.nd rfl (by first | exact Or.inl rfl | exact Or.inr rfl)))) (fun _ _ _ _ _ => pts_n) (fun _ _ _ _ _ => (pu_callTy b_tuple (by rfl) T.z_tuple bt_tuple (pav_cons (PuE.v (puF_e (pf_comp (own := [("item", 9)]) rfl sc_law.nd (piv_s (pv_var (pv 6))) (blkOk_by (by kernel_rfl)) (by decide) (fun _ _ _ _ _ => (pg_n (pg_name (i := 9) sc_law.nd rfl (by first | exact Or.inl rfl | exact Or.inr rfl)))) (fun _ _ _ _ _ => pts_n) (fun _ _ _ _ _ => (pu_ix o_ix (pv_var (pv 8)) (pv_var (pv 9)) (fun _ _ => rfl)))))) pav_nil))))) pa_nil'))))
    (ss_one (s_if (pt_cmp' (o_notIn (hu65 hr)) (pv_var (pv 7)) (pv_var (pv 5)) (by rfl)) (ss_one (s_app (pv 5) (pu_var (pv 7)))) ss_nil))))
    (ss_one (s_ret (pu_and (pu_call ((ok__law_equal T).mono (by omega)) hr (by rfl) T.g__law_equal T.F__law_equal.kp (bd__law_equal T) (pa_cons' (pu_call ((ok_orbits T).mono (by omega)) hr (by rfl) T.g_orbits T.F_orbits.kp (bd_orbits T) (pa_cons' (pu_var (pv 2)) (pa_cons' (pu_var (pv 3)) pa_nil'))) (pa_cons' (pu_callB (b_sorted (hu68 hr)) (by rfl) T.z_sorted bt_sorted (pav_cons (pv_var (pv 5)) pav_nil)) pa_nil'))) (pu_one (pu_call ((ok__law_equal T).mono (by omega)) hr (by rfl) T.g__law_equal T.F__law_equal.kp (bd__law_equal T) (pa_cons' (pu_call ((ok_orbits T).mono (by omega)) hr (by rfl) T.g_orbits T.F_orbits.kp (bd_orbits T) (pa_cons' (pu_var (pv 2)) (pa_cons' pu_int pa_nil'))) (pa_cons' (pu_lst (pa_cons' (pu_tup (pa_cons' (pu_tup pa_nil') pa_nil')) pa_nil')) pa_nil')))))))))))))), body_run h⟩)
end
/-! ### the head -/
def d_tuples_of : He.DefD := ⟨("tuples_of", none), "tuples_of", "tuples_of", defArgs s_tuples_of, defBody s_tuples_of, defScope s_tuples_of, [], []⟩
def d_goes : He.DefD := ⟨("goes", none), "goes", "goes", defArgs s_goes, defBody s_goes, defScope s_goes, [], []⟩
def d_likenesses : He.DefD := ⟨("likenesses", none), "likenesses", "likenesses", defArgs s_likenesses, defBody s_likenesses, defScope s_likenesses, [], []⟩
def d_turnings : He.DefD := ⟨("turnings", none), "turnings", "turnings", defArgs s_turnings, defBody s_turnings, defScope s_turnings, [], []⟩
def d_led : He.DefD := ⟨("led", none), "led", "led", defArgs s_led, defBody s_led, defScope s_led, [], []⟩
def d_orbits : He.DefD := ⟨("orbits", none), "orbits", "orbits", defArgs s_orbits, defBody s_orbits, defScope s_orbits, [], []⟩
def d__law_cell : He.DefD := ⟨("_law_cell", none), "_law_cell", "_law_cell", defArgs s__law_cell, defBody s__law_cell, defScope s__law_cell, [], []⟩
def d__law_draws : He.DefD := ⟨("_law_draws", none), "_law_draws", "_law_draws", defArgs s__law_draws, defBody s__law_draws, defScope s__law_draws, [], []⟩
def d__law_kind : He.DefD := ⟨("_law_kind", none), "_law_kind", "_law_kind", defArgs s__law_kind, defBody s__law_kind, defScope s__law_kind, [], []⟩
def d__law_equal : He.DefD := ⟨("_law_equal", none), "_law_equal", "_law_equal", defArgs s__law_equal, defBody s__law_equal, defScope s__law_equal, [], []⟩
def d__law_line : He.DefD := ⟨("_law_line", none), "_law_line", "_law_line", defArgs s__law_line, defBody s__law_line, defScope s__law_line, [], []⟩
def d__law_ring : He.DefD := ⟨("_law_ring", none), "_law_ring", "_law_ring", defArgs s__law_ring, defBody s__law_ring, defScope s__law_ring, [], []⟩
def d__law_both_ways : He.DefD := ⟨("_law_both_ways", none), "_law_both_ways", "_law_both_ways", defArgs s__law_both_ways, defBody s__law_both_ways, defScope s__law_both_ways, [], []⟩
def d__law_special : He.DefD := ⟨("_law_special", none), "_law_special", "_law_special", defArgs s__law_special, defBody s__law_special, defScope s__law_special, [], []⟩
def d__law_world : He.DefD := ⟨("_law_world", none), "_law_world", "_law_world", defArgs s__law_world, defBody s__law_world, defScope s__law_world, [], []⟩
def d__law_tuples : He.DefD := ⟨("_law_tuples", none), "_law_tuples", "_law_tuples", defArgs s__law_tuples, defBody s__law_tuples, defScope s__law_tuples, [], []⟩
def d__law_unlike : He.DefD := ⟨("_law_unlike", none), "_law_unlike", "_law_unlike", defArgs s__law_unlike, defBody s__law_unlike, defScope s__law_unlike, [], []⟩
def d__law_fit : He.DefD := ⟨("_law_fit", none), "_law_fit", "_law_fit", defArgs s__law_fit, defBody s__law_fit, defScope s__law_fit, [], []⟩
def d__law_carry : He.DefD := ⟨("_law_carry", none), "_law_carry", "_law_carry", defArgs s__law_carry, defBody s__law_carry, defScope s__law_carry, [], []⟩
def d__law_goes : He.DefD := ⟨("_law_goes", none), "_law_goes", "_law_goes", defArgs s__law_goes, defBody s__law_goes, defScope s__law_goes, [], []⟩
def d__law_ways : He.DefD := ⟨("_law_ways", none), "_law_ways", "_law_ways", defArgs s__law_ways, defBody s__law_ways, defScope s__law_ways, [], []⟩
def d_law : He.DefD := ⟨("law", none), "law", "law", defArgs s_law, defBody s_law, defScope s_law, [], []⟩
def fn : List He.DefD := [d_tuples_of, d_goes, d_likenesses, d_turnings, d_led, d_orbits, d__law_cell, d__law_draws, d__law_kind, d__law_equal, d__law_line, d__law_ring, d__law_both_ways, d__law_special, d__law_world, d__law_tuples, d__law_unlike, d__law_fit, d__law_carry, d__law_goes, d__law_ways, d_law]
def fa : List He.Fa := [.glo "tuples_of", .glo "goes", .glo "likenesses", .glo "turnings", .glo "led", .glo "orbits", .glo "_law_cell", .glo "_law_draws", .glo "_law_kind", .glo "_law_equal", .glo "_law_line", .glo "_law_ring", .glo "_law_both_ways", .glo "_law_special", .glo "_law_world", .glo "_law_tuples", .glo "_law_unlike", .glo "_law_fit", .glo "_law_carry", .glo "_law_goes", .glo "_law_ways", .glo "law", .free "all", .free "any", .free "bool", .free "dict", .free "int", .free "isinstance", .free "len", .free "list", .free "range", .free "set", .free "sorted", .free "str", .free "tuple"]
abbrev R : PySem.W.OpenRow := PySem.W.OpenLaw.row PySem.Challenge.rw_backforth_k48_orbits_listed
abbrev hk : PySem.W.Hook := He.hookD 4 fa fn
def ob (s : PySem.W.SharedT) : He.AlD := He.obsDG 4 fa fn (HandSHeadRun.getT s)
theorem ob_eq (s : PySem.W.SharedT) : ob s = hk.obs s.abs := He.obsDG_eq (HandSHeadRun.getT_eq s)
theorem run (w : World) : HandSHeadRun.RunEq R (PySem.W.view R.prog [25]) hk ob 6000 ["tuples_of", "goes", "likenesses", "turnings", "led", "orbits", "_law_cell", "_law_draws", "_law_kind", "_law_equal", "_law_line", "_law_ring", "_law_both_ways", "_law_special", "_law_world", "_law_tuples", "_law_unlike", "_law_fit", "_law_carry", "_law_goes", "_law_ways"] w := by
  intro os
  kernel_rfl
theorem text {K : PySem.W.Frag} {h : Heap} {mg : Str → Option Value} (X : K.In h) (M : h.Ns mainGlobals mg) (c : He.SaysD fa fn K) : Nonempty (Txt (noLst K) mg) := by
  obtain ⟨fd_tuples_of, F_tuples_of⟩ := c.def_ 0 (d := d_tuples_of) rfl
  obtain ⟨fd_goes, F_goes⟩ := c.def_ 1 (d := d_goes) rfl
  obtain ⟨fd_likenesses, F_likenesses⟩ := c.def_ 2 (d := d_likenesses) rfl
  obtain ⟨fd_turnings, F_turnings⟩ := c.def_ 3 (d := d_turnings) rfl
  obtain ⟨fd_led, F_led⟩ := c.def_ 4 (d := d_led) rfl
  obtain ⟨fd_orbits, F_orbits⟩ := c.def_ 5 (d := d_orbits) rfl
  obtain ⟨fd__law_cell, F__law_cell⟩ := c.def_ 6 (d := d__law_cell) rfl
  obtain ⟨fd__law_draws, F__law_draws⟩ := c.def_ 7 (d := d__law_draws) rfl
  obtain ⟨fd__law_kind, F__law_kind⟩ := c.def_ 8 (d := d__law_kind) rfl
  obtain ⟨fd__law_equal, F__law_equal⟩ := c.def_ 9 (d := d__law_equal) rfl
  obtain ⟨fd__law_line, F__law_line⟩ := c.def_ 10 (d := d__law_line) rfl
  obtain ⟨fd__law_ring, F__law_ring⟩ := c.def_ 11 (d := d__law_ring) rfl
  obtain ⟨fd__law_both_ways, F__law_both_ways⟩ := c.def_ 12 (d := d__law_both_ways) rfl
  obtain ⟨fd__law_special, F__law_special⟩ := c.def_ 13 (d := d__law_special) rfl
  obtain ⟨fd__law_world, F__law_world⟩ := c.def_ 14 (d := d__law_world) rfl
  obtain ⟨fd__law_tuples, F__law_tuples⟩ := c.def_ 15 (d := d__law_tuples) rfl
  obtain ⟨fd__law_unlike, F__law_unlike⟩ := c.def_ 16 (d := d__law_unlike) rfl
  obtain ⟨fd__law_fit, F__law_fit⟩ := c.def_ 17 (d := d__law_fit) rfl
  obtain ⟨fd__law_carry, F__law_carry⟩ := c.def_ 18 (d := d__law_carry) rfl
  obtain ⟨fd__law_goes, F__law_goes⟩ := c.def_ 19 (d := d__law_goes) rfl
  obtain ⟨fd__law_ways, F__law_ways⟩ := c.def_ 20 (d := d__law_ways) rfl
  obtain ⟨fd_law, F_law⟩ := c.def_ 21 (d := d_law) rfl
  exact ⟨{ f_tuples_of := _, fd_tuples_of := fd_tuples_of, F_tuples_of := noLst_fun F_tuples_of, g_tuples_of := He.glo_ok X M (c.fact 0 (f := .glo "tuples_of") rfl), f_goes := _, fd_goes := fd_goes, F_goes := noLst_fun F_goes, g_goes := He.glo_ok X M (c.fact 1 (f := .glo "goes") rfl), f_likenesses := _, fd_likenesses := fd_likenesses, F_likenesses := noLst_fun F_likenesses, g_likenesses := He.glo_ok X M (c.fact 2 (f := .glo "likenesses") rfl), f_turnings := _, fd_turnings := fd_turnings, F_turnings := noLst_fun F_turnings, g_turnings := He.glo_ok X M (c.fact 3 (f := .glo "turnings") rfl), f_led := _, fd_led := fd_led, F_led := noLst_fun F_led, g_led := He.glo_ok X M (c.fact 4 (f := .glo "led") rfl), f_orbits := _, fd_orbits := fd_orbits, F_orbits := noLst_fun F_orbits, g_orbits := He.glo_ok X M (c.fact 5 (f := .glo "orbits") rfl), f__law_cell := _, fd__law_cell := fd__law_cell, F__law_cell := noLst_fun F__law_cell, g__law_cell := He.glo_ok X M (c.fact 6 (f := .glo "_law_cell") rfl), f__law_draws := _, fd__law_draws := fd__law_draws, F__law_draws := noLst_fun F__law_draws, g__law_draws := He.glo_ok X M (c.fact 7 (f := .glo "_law_draws") rfl), f__law_kind := _, fd__law_kind := fd__law_kind, F__law_kind := noLst_fun F__law_kind, g__law_kind := He.glo_ok X M (c.fact 8 (f := .glo "_law_kind") rfl), f__law_equal := _, fd__law_equal := fd__law_equal, F__law_equal := noLst_fun F__law_equal, g__law_equal := He.glo_ok X M (c.fact 9 (f := .glo "_law_equal") rfl), f__law_line := _, fd__law_line := fd__law_line, F__law_line := noLst_fun F__law_line, g__law_line := He.glo_ok X M (c.fact 10 (f := .glo "_law_line") rfl), f__law_ring := _, fd__law_ring := fd__law_ring, F__law_ring := noLst_fun F__law_ring, g__law_ring := He.glo_ok X M (c.fact 11 (f := .glo "_law_ring") rfl), f__law_both_ways := _, fd__law_both_ways := fd__law_both_ways, F__law_both_ways := noLst_fun F__law_both_ways, g__law_both_ways := He.glo_ok X M (c.fact 12 (f := .glo "_law_both_ways") rfl), f__law_special := _, fd__law_special := fd__law_special, F__law_special := noLst_fun F__law_special, g__law_special := He.glo_ok X M (c.fact 13 (f := .glo "_law_special") rfl), f__law_world := _, fd__law_world := fd__law_world, F__law_world := noLst_fun F__law_world, g__law_world := He.glo_ok X M (c.fact 14 (f := .glo "_law_world") rfl), f__law_tuples := _, fd__law_tuples := fd__law_tuples, F__law_tuples := noLst_fun F__law_tuples, g__law_tuples := He.glo_ok X M (c.fact 15 (f := .glo "_law_tuples") rfl), f__law_unlike := _, fd__law_unlike := fd__law_unlike, F__law_unlike := noLst_fun F__law_unlike, g__law_unlike := He.glo_ok X M (c.fact 16 (f := .glo "_law_unlike") rfl), f__law_fit := _, fd__law_fit := fd__law_fit, F__law_fit := noLst_fun F__law_fit, g__law_fit := He.glo_ok X M (c.fact 17 (f := .glo "_law_fit") rfl), f__law_carry := _, fd__law_carry := fd__law_carry, F__law_carry := noLst_fun F__law_carry, g__law_carry := He.glo_ok X M (c.fact 18 (f := .glo "_law_carry") rfl), f__law_goes := _, fd__law_goes := fd__law_goes, F__law_goes := noLst_fun F__law_goes, g__law_goes := He.glo_ok X M (c.fact 19 (f := .glo "_law_goes") rfl), f__law_ways := _, fd__law_ways := fd__law_ways, F__law_ways := noLst_fun F__law_ways, g__law_ways := He.glo_ok X M (c.fact 20 (f := .glo "_law_ways") rfl), f_law := _, fd_law := fd_law, F_law := noLst_fun F_law, g_law := He.glo_ok X M (c.fact 21 (f := .glo "law") rfl), z_all := He.free_ok X M (c.fact 22 (f := .free "all") rfl), z_any := He.free_ok X M (c.fact 23 (f := .free "any") rfl), z_bool := He.free_ok X M (c.fact 24 (f := .free "bool") rfl), z_dict := He.free_ok X M (c.fact 25 (f := .free "dict") rfl), z_int := He.free_ok X M (c.fact 26 (f := .free "int") rfl), z_isinstance := He.free_ok X M (c.fact 27 (f := .free "isinstance") rfl), z_len := He.free_ok X M (c.fact 28 (f := .free "len") rfl), z_list := He.free_ok X M (c.fact 29 (f := .free "list") rfl), z_range := He.free_ok X M (c.fact 30 (f := .free "range") rfl), z_set := He.free_ok X M (c.fact 31 (f := .free "set") rfl), z_sorted := He.free_ok X M (c.fact 32 (f := .free "sorted") rfl), z_str := He.free_ok X M (c.fact 33 (f := .free "str") rfl), z_tuple := He.free_ok X M (c.fact 34 (f := .free "tuple") rfl) }⟩
theorem facts {P : Program} {w : World} {K : PySem.W.Frag} {h : Heap} {mg : Str → Option Value} {f : Addr} (X : K.In h) (M : h.Ns mainGlobals mg) (hfa : mg ("law" : Str) = some (.ref f)) (c : He.SaysD fa fn K) :
    ∃ fd : FuncData, (∀ (s : Shared) (v : Value), BindsTo s fd ⟨[v], []⟩ [("script", v)]) ∧ ∀ base : Heap, FnOk P w (noLst K) mg base CX0 13 f fd ["script"] (SpD (noLst K) m_law) := by
  obtain ⟨T⟩ := text X M c
  have e := hfa.symm.trans T.g_law
  cases e
  have b := FunD.bindsA (ps := ["script"]) T.F_law fun _ _ _ _ _ _ us hl => match us, hl with | [_], _ => rfl
  exact ⟨T.fd_law, fun s v => b s [v] rfl, fun base => ok_law T⟩
end G
open PySem PySem.W PySem.Calls PyProof.Rows
/-- the law holds where its mirror says so of every script -/
theorem G.holds (hm : ∀ ns : List Int, ns.length ≤ 63 → G.m_law [.list (ns.map PyData.int)] = some (.bool true)) : PySem.Challenge.rw_backforth_k48_orbits_listed.Holds := by
  w_on; o_law
  refine HandSHeadRun.head_any (r := OpenLaw.row PySem.Challenge.rw_backforth_k48_orbits_listed) (q := view (OpenLaw.row PySem.Challenge.rw_backforth_k48_orbits_listed).prog [25]) (H := G.hk) (ob := G.ob) (M := 6000) (loose := ["tuples_of", "goes", "likenesses", "turnings", "led", "orbits", "_law_cell", "_law_draws", "_law_kind", "_law_equal", "_law_line", "_law_ring", "_law_both_ways", "_law_special", "_law_world", "_law_tuples", "_law_unlike", "_law_fit", "_law_carry", "_law_goes", "_law_ways"]) (d := HandSHeadRun.topDef (OpenLaw.row PySem.Challenge.rw_backforth_k48_orbits_listed).prog 25) (kwd := []) G.ob_eq
    (by kernel_rfl) (fun s => by kernel_rfl) G.run (by kernel_rfl) (by kernel_rfl) (by kernel_rfl) (by rfl) (by first | assumption | decide +kernel) (by decide +kernel) ⟨rfl, rfl, rfl, rfl, rfl, by decide +kernel⟩ ?hw ?hc
  case hw => w_witness2
  case hc =>
    refine L2.walk_ofE (l := PySem.Challenge.rw_backforth_k48_orbits_listed) (n := 63) (k := 13) (x := "script") (CX := L2.CX0) rfl (by decide) (by kernel_rfl) ⟨rfl, by decide, by decide⟩ ?F (fun _ _ _ _ z => z)
    intro w mg fa h Y M hmg0
    obtain ⟨K, KX, c⟩ := Y
    have hmg : mg ("law" : PySem.Str) = some (.ref fa) := by
      have e : (HandSHeadRun.topDef (OpenLaw.row PySem.Challenge.rw_backforth_k48_orbits_listed).prog 25).name = ("law" : PySem.Str) := by kernel_rfl
      rw [← e]
      exact hmg0
    obtain ⟨fd, hb, hF⟩ := G.facts (P := (PySem.Challenge.rw_backforth_k48_orbits_listed).prog) (w := w) KX M hmg c
    exact ⟨PL.noLst K, fd, PL.SpD (PL.noLst K) G.m_law, PL.noLst_in KX, hb, fun H a ns hl _ hS => PL.law_D hm H a ns hl (PL.noLst_sq hS), fun base _ _ => hF base⟩

set_option Elab.async false
set_option linter.all false
set_option maxRecDepth 100000
set_option maxHeartbeats 2000000
namespace M
open PySem PL G
open L2 (atI)
open PySem.W (Datum DatumOrd Tup listLt)
structure Wd where
  n : Nat
  m0 : List Int
  m1 : List Int
  ar : List (Int × Int)
def encI (l : List Int) : D := .tuple (l.map .int)
def encP (p : Int × Int) : D := .tuple [.int p.1, .int p.2]
def encPs (l : List (Int × Int)) : D := .tuple (l.map encP)
def encW (w : Wd) : D := .tuple [.int w.n, .tuple [encI w.m0, encI w.m1], encPs w.ar]
theorem inD_int (i : Int) (l : List Int) : inD (.int i) (encI l) = some (.bool (has i l)) := by
  unfold inD
  rw [show memD (.int i) (encI l) = some (has i l) from mem_T (α := Int) i l] <;> rfl
theorem notInD_int (i : Int) (l : List Int) : notInD (.int i) (encI l) = some (.bool (!has i l)) := by
  unfold notInD
  rw [show memD (.int i) (encI l) = some (has i l) from mem_T (α := Int) i l] <;> rfl
theorem inD_pair (a b : Int) (l : List (Int × Int)) : inD (.tuple [.int a, .int b]) (encPs l) = some (.bool (has (a, b) l)) := by
  unfold inD
  rw [show memD (.tuple [.int a, .int b]) (encPs l) = some (has (a, b) l) from mem_T (α := Int × Int) (a, b) l] <;> rfl
theorem notInD_pair (a b : Int) (l : List (Int × Int)) : notInD (.tuple [.int a, .int b]) (encPs l) = some (.bool (!has (a, b) l)) := by
  unfold notInD
  rw [show memD (.tuple [.int a, .int b]) (encPs l) = some (has (a, b) l) from mem_T (α := Int × Int) (a, b) l] <;> rfl
def F (u v : Wd) (x y : Int × Int) : Bool :=
  (decide (x.1 = y.1) == decide (x.2 = y.2)) && ((has x.1 u.m0 == has x.2 v.m0) && ((has x.1 u.m1 == has x.2 v.m1) && ((has (x.1, y.1) u.ar == has (x.2, y.2) v.ar) && (has (y.1, x.1) u.ar == has (y.2, x.2) v.ar))))
theorem fit_eval (u v : Wd) (x y : Int × Int) : m__law_fit [encW u, encW v, encP x, encP y] = some (.bool (F u v x y)) := by
  obtain ⟨a, b⟩ := x
  obtain ⟨c, d⟩ := y
  unfold m__law_fit S__law_fit encW encP F
  (simp only [x_seq, x_nx, x_rt, x_lnx, x_lct, x_lbk, x_lrt, x_bk, x_ct, x_nil, x_ret, x_set, x_asg, x_new, x_frz, x_if, x_drop, x_for, x_gN, x_gT, x_gsN, x_gsC, x_var, x_vvar, x_c, x_bin, x_un, x_of, x_tru, x_tand, x_tor, x_tnot, x_tT, x_and, x_or, x_not, x_eif, x_aN, x_aC, x_tup, x_lst, x_llst, x_call, x_eL, x_lseq, x_rng1, x_comp, x_comp2, x_app, x_ext, x_frzE, x_f1, x_f2, x_fn, x_start, x_rrt, x_rnx, all_D, any_D, x_bN, x_bC, x_asB, x_asI, x_truB, x_truI, x_seqL, x_seqT, x_lenL, x_lenT, x_tupL, x_tupT, x_int, x_wN, x_wC, x_ixT, x_ixL, x_isi, x_is_int_bool, x_is_int_int, x_is_int_str, x_is_int_tuple, x_is_int_list, x_is_int_dict, x_is_tup_bool, x_is_tup_int, x_is_tup_str, x_is_tup_tuple, x_is_tup_list, x_is_tup_dict, x_is_lst_bool, x_is_lst_int, x_is_lst_str, x_is_lst_tuple, x_is_lst_list, x_is_lst_dict, x_is_bl_bool, x_is_bl_int, x_is_bl_str, x_is_bl_tuple, x_is_bl_list, x_is_bl_dict, x_is_non_bool, x_is_non_int, x_is_non_str, x_is_non_tuple, x_is_non_list, x_is_non_dict, x_is_str_bool, x_is_str_int, x_is_str_str, x_is_str_tuple, x_is_str_list, x_is_str_dict, x_ite, x_itm, x_at0, x_at1, x_at2, x_addI, x_subI, x_pow18, x_mod, x_fdiv, x_sq, x_mul, x_mul', x_addT, x_addL, x_gt, x_ge, x_le, x_lt, eqD_int, neD_int, eqD_bool, neD_bool, getS, setS, List.map_cons, List.map_nil, List.length_cons, List.length_nil, List.cons_append, List.nil_append, List.replicate, Option.bind_some, Option.map_some, Option.bind_none, Option.map_none, if_true, if_false, ite_true, ite_false, reduceIte, Nat.reduceAdd, Nat.reduceSub, Nat.reduceLeDiff, Bool.false_eq_true, Nat.reduceEqDiff, Nat.le_refl, LIM, Bool.not_true, Bool.not_false, decide_true, decide_false, decide_eq_true_eq, Int.reduceEq, Int.reduceLT, Int.reduceLE, Int.reduceAdd, Int.reduceSub, Int.reduceNe, Int.reduceNeg, Int.cast_ofNat_Int, ne_eq, not_true_eq_false, not_false_eq_true])
  simp only [inD_int, inD_pair]
  (simp only [x_seq, x_nx, x_rt, x_lnx, x_lct, x_lbk, x_lrt, x_bk, x_ct, x_nil, x_ret, x_set, x_asg, x_new, x_frz, x_if, x_drop, x_for, x_gN, x_gT, x_gsN, x_gsC, x_var, x_vvar, x_c, x_bin, x_un, x_of, x_tru, x_tand, x_tor, x_tnot, x_tT, x_and, x_or, x_not, x_eif, x_aN, x_aC, x_tup, x_lst, x_llst, x_call, x_eL, x_lseq, x_rng1, x_comp, x_comp2, x_app, x_ext, x_frzE, x_f1, x_f2, x_fn, x_start, x_rrt, x_rnx, all_D, any_D, x_bN, x_bC, x_asB, x_asI, x_truB, x_truI, x_seqL, x_seqT, x_lenL, x_lenT, x_tupL, x_tupT, x_int, x_wN, x_wC, x_ixT, x_ixL, x_isi, x_is_int_bool, x_is_int_int, x_is_int_str, x_is_int_tuple, x_is_int_list, x_is_int_dict, x_is_tup_bool, x_is_tup_int, x_is_tup_str, x_is_tup_tuple, x_is_tup_list, x_is_tup_dict, x_is_lst_bool, x_is_lst_int, x_is_lst_str, x_is_lst_tuple, x_is_lst_list, x_is_lst_dict, x_is_bl_bool, x_is_bl_int, x_is_bl_str, x_is_bl_tuple, x_is_bl_list, x_is_bl_dict, x_is_non_bool, x_is_non_int, x_is_non_str, x_is_non_tuple, x_is_non_list, x_is_non_dict, x_is_str_bool, x_is_str_int, x_is_str_str, x_is_str_tuple, x_is_str_list, x_is_str_dict, x_ite, x_itm, x_at0, x_at1, x_at2, x_addI, x_subI, x_pow18, x_mod, x_fdiv, x_sq, x_mul, x_mul', x_addT, x_addL, x_gt, x_ge, x_le, x_lt, eqD_int, neD_int, eqD_bool, neD_bool, getS, setS, List.map_cons, List.map_nil, List.length_cons, List.length_nil, List.cons_append, List.nil_append, List.replicate, Option.bind_some, Option.map_some, Option.bind_none, Option.map_none, if_true, if_false, ite_true, ite_false, reduceIte, Nat.reduceAdd, Nat.reduceSub, Nat.reduceLeDiff, Bool.false_eq_true, Nat.reduceEqDiff, Nat.le_refl, LIM, Bool.not_true, Bool.not_false, decide_true, decide_false, decide_eq_true_eq, Int.reduceEq, Int.reduceLT, Int.reduceLE, Int.reduceAdd, Int.reduceSub, Int.reduceNe, Int.reduceNeg, Int.cast_ofNat_Int, ne_eq, not_true_eq_false, not_false_eq_true])
  simp only [inD_int, inD_pair]
  (simp only [x_seq, x_nx, x_rt, x_lnx, x_lct, x_lbk, x_lrt, x_bk, x_ct, x_nil, x_ret, x_set, x_asg, x_new, x_frz, x_if, x_drop, x_for, x_gN, x_gT, x_gsN, x_gsC, x_var, x_vvar, x_c, x_bin, x_un, x_of, x_tru, x_tand, x_tor, x_tnot, x_tT, x_and, x_or, x_not, x_eif, x_aN, x_aC, x_tup, x_lst, x_llst, x_call, x_eL, x_lseq, x_rng1, x_comp, x_comp2, x_app, x_ext, x_frzE, x_f1, x_f2, x_fn, x_start, x_rrt, x_rnx, all_D, any_D, x_bN, x_bC, x_asB, x_asI, x_truB, x_truI, x_seqL, x_seqT, x_lenL, x_lenT, x_tupL, x_tupT, x_int, x_wN, x_wC, x_ixT, x_ixL, x_isi, x_is_int_bool, x_is_int_int, x_is_int_str, x_is_int_tuple, x_is_int_list, x_is_int_dict, x_is_tup_bool, x_is_tup_int, x_is_tup_str, x_is_tup_tuple, x_is_tup_list, x_is_tup_dict, x_is_lst_bool, x_is_lst_int, x_is_lst_str, x_is_lst_tuple, x_is_lst_list, x_is_lst_dict, x_is_bl_bool, x_is_bl_int, x_is_bl_str, x_is_bl_tuple, x_is_bl_list, x_is_bl_dict, x_is_non_bool, x_is_non_int, x_is_non_str, x_is_non_tuple, x_is_non_list, x_is_non_dict, x_is_str_bool, x_is_str_int, x_is_str_str, x_is_str_tuple, x_is_str_list, x_is_str_dict, x_ite, x_itm, x_at0, x_at1, x_at2, x_addI, x_subI, x_pow18, x_mod, x_fdiv, x_sq, x_mul, x_mul', x_addT, x_addL, x_gt, x_ge, x_le, x_lt, eqD_int, neD_int, eqD_bool, neD_bool, getS, setS, List.map_cons, List.map_nil, List.length_cons, List.length_nil, List.cons_append, List.nil_append, List.replicate, Option.bind_some, Option.map_some, Option.bind_none, Option.map_none, if_true, if_false, ite_true, ite_false, reduceIte, Nat.reduceAdd, Nat.reduceSub, Nat.reduceLeDiff, Bool.false_eq_true, Nat.reduceEqDiff, Nat.le_refl, LIM, Bool.not_true, Bool.not_false, decide_true, decide_false, decide_eq_true_eq, Int.reduceEq, Int.reduceLT, Int.reduceLE, Int.reduceAdd, Int.reduceSub, Int.reduceNe, Int.reduceNeg, Int.cast_ofNat_Int, ne_eq, not_true_eq_false, not_false_eq_true])
  rcases Bool.eq_false_or_eq_true (decide (a = c) == decide (b = d)) with h1 | h1 <;> simp only [bne, h1]
  case inr => rfl
  rcases Bool.eq_false_or_eq_true (has a u.m0 == has b v.m0) with h1 | h1 <;> simp only [h1]
  case inr => rfl
  rcases Bool.eq_false_or_eq_true (has a u.m1 == has b v.m1) with h1 | h1 <;> simp only [h1]
  case inr => rfl
  rcases Bool.eq_false_or_eq_true (has (a, c) u.ar == has (b, d) v.ar) with h1 | h1 <;> simp only [h1] <;> rfl
theorem goes_eval (u v : Wd) (x y : Int × Int) : m_goes [encW u, encW v, encP x, encP y] = some (.bool (F u v x y)) := by
  obtain ⟨a, b⟩ := x
  obtain ⟨c, d⟩ := y
  unfold m_goes S_goes encW encP F
  (repeat (first | (simp only [x_seq, x_nx, x_rt, x_lnx, x_lct, x_lbk, x_lrt, x_bk, x_ct, x_nil, x_ret, x_set, x_asg, x_new, x_frz, x_if, x_drop, x_for, x_gN, x_gT, x_gsN, x_gsC, x_var, x_vvar, x_c, x_bin, x_un, x_of, x_tru, x_tand, x_tor, x_tnot, x_tT, x_and, x_or, x_not, x_eif, x_aN, x_aC, x_tup, x_lst, x_llst, x_call, x_eL, x_lseq, x_rng1, x_comp, x_comp2, x_app, x_ext, x_frzE, x_f1, x_f2, x_fn, x_start, x_rrt, x_rnx, all_D, any_D, x_bN, x_bC, x_asB, x_asI, x_truB, x_truI, x_seqL, x_seqT, x_lenL, x_lenT, x_tupL, x_tupT, x_int, x_wN, x_wC, x_ixT, x_ixL, x_isi, x_is_int_bool, x_is_int_int, x_is_int_str, x_is_int_tuple, x_is_int_list, x_is_int_dict, x_is_tup_bool, x_is_tup_int, x_is_tup_str, x_is_tup_tuple, x_is_tup_list, x_is_tup_dict, x_is_lst_bool, x_is_lst_int, x_is_lst_str, x_is_lst_tuple, x_is_lst_list, x_is_lst_dict, x_is_bl_bool, x_is_bl_int, x_is_bl_str, x_is_bl_tuple, x_is_bl_list, x_is_bl_dict, x_is_non_bool, x_is_non_int, x_is_non_str, x_is_non_tuple, x_is_non_list, x_is_non_dict, x_is_str_bool, x_is_str_int, x_is_str_str, x_is_str_tuple, x_is_str_list, x_is_str_dict, x_ite, x_itm, x_at0, x_at1, x_at2, x_addI, x_subI, x_pow18, x_mod, x_fdiv, x_sq, x_mul, x_mul', x_addT, x_addL, x_gt, x_ge, x_le, x_lt, eqD_int, neD_int, eqD_bool, neD_bool, getS, setS, List.map_cons, List.map_nil, List.length_cons, List.length_nil, List.cons_append, List.nil_append, List.replicate, Option.bind_some, Option.map_some, Option.bind_none, Option.map_none, if_true, if_false, ite_true, ite_false, reduceIte, Nat.reduceAdd, Nat.reduceSub, Nat.reduceLeDiff, Bool.false_eq_true, Nat.reduceEqDiff, Nat.le_refl, LIM, Bool.not_true, Bool.not_false, decide_true, decide_false, decide_eq_true_eq, Int.reduceEq, Int.reduceLT, Int.reduceLE, Int.reduceAdd, Int.reduceSub, Int.reduceNe, Int.reduceNeg, Int.cast_ofNat_Int, ne_eq, not_true_eq_false, not_false_eq_true]) | simp only [inD_int, notInD_int, inD_pair, notInD_pair, compD, x_any]))
  rcases Bool.eq_false_or_eq_true (decide (a = c) == decide (b = d)) with h1 | h1 <;> simp only [bne, h1]
  case inr => rfl
  rcases Bool.eq_false_or_eq_true (has a u.m0 == has b v.m0) with h1 | h1 <;> simp only [h1]
  case inr => rfl
  rcases Bool.eq_false_or_eq_true (has a u.m1 == has b v.m1) with h1 | h1 <;> simp only [h1]
  case inr => rfl
  rcases Bool.eq_false_or_eq_true (has (a, c) u.ar == has (b, d) v.ar) with h1 | h1 <;> simp only [h1] <;> rfl
def allF (u v : Wd) (ps : List (Int × Int)) : Bool := ps.all fun x => ps.all fun y => F u v x y
theorem all_filter {α : Type} (p : α → Bool) (l : List α) : decide (0 < (((l.filter fun y => !p y).length : Nat) : Int)) = !(l.all p) := by
  induction l with
  | nil => rfl
  | cons x l ih =>
    rw [List.filter_cons, List.all_cons]
    cases h : p x
    · simp
    · simpa using ih
theorem lgoes_eval (u v : Wd) (ps : List (Int × Int)) : m__law_goes [encW u, encW v, encPs ps, .int 0] = some (.bool (allF u v ps)) := by
  unfold m__law_goes S__law_goes
  (simp only [x_seq, x_nx, x_rt, x_lnx, x_lct, x_lbk, x_lrt, x_bk, x_ct, x_nil, x_ret, x_set, x_asg, x_new, x_frz, x_if, x_drop, x_for, x_gN, x_gT, x_gsN, x_gsC, x_var, x_vvar, x_c, x_bin, x_un, x_of, x_tru, x_tand, x_tor, x_tnot, x_tT, x_and, x_or, x_not, x_eif, x_aN, x_aC, x_tup, x_lst, x_llst, x_call, x_eL, x_lseq, x_rng1, x_comp, x_comp2, x_app, x_ext, x_frzE, x_f1, x_f2, x_fn, x_start, x_rrt, x_rnx, all_D, any_D, x_bN, x_bC, x_asB, x_asI, x_truB, x_truI, x_seqL, x_seqT, x_lenL, x_lenT, x_tupL, x_tupT, x_int, x_wN, x_wC, x_ixT, x_ixL, x_isi, x_is_int_bool, x_is_int_int, x_is_int_str, x_is_int_tuple, x_is_int_list, x_is_int_dict, x_is_tup_bool, x_is_tup_int, x_is_tup_str, x_is_tup_tuple, x_is_tup_list, x_is_tup_dict, x_is_lst_bool, x_is_lst_int, x_is_lst_str, x_is_lst_tuple, x_is_lst_list, x_is_lst_dict, x_is_bl_bool, x_is_bl_int, x_is_bl_str, x_is_bl_tuple, x_is_bl_list, x_is_bl_dict, x_is_non_bool, x_is_non_int, x_is_non_str, x_is_non_tuple, x_is_non_list, x_is_non_dict, x_is_str_bool, x_is_str_int, x_is_str_str, x_is_str_tuple, x_is_str_list, x_is_str_dict, x_ite, x_itm, x_at0, x_at1, x_at2, x_addI, x_subI, x_pow18, x_mod, x_fdiv, x_sq, x_mul, x_mul', x_addT, x_addL, x_gt, x_ge, x_le, x_lt, eqD_int, neD_int, eqD_bool, neD_bool, getS, setS, List.map_cons, List.map_nil, List.length_cons, List.length_nil, List.cons_append, List.nil_append, List.replicate, Option.bind_some, Option.map_some, Option.bind_none, Option.map_none, if_true, if_false, ite_true, ite_false, reduceIte, Nat.reduceAdd, Nat.reduceSub, Nat.reduceLeDiff, Bool.false_eq_true, Nat.reduceEqDiff, Nat.le_refl, LIM, Bool.not_true, Bool.not_false, decide_true, decide_false, decide_eq_true_eq, Int.reduceEq, Int.reduceLT, Int.reduceLE, Int.reduceAdd, Int.reduceSub, Int.reduceNe, Int.reduceNeg, Int.cast_ofNat_Int, ne_eq, not_true_eq_false, not_false_eq_true])
  have L := forD_ret (gg := gN 4) (S := b__law_goes_0) encP
    (fun ρ => ∃ s4 s5, ρ = [.dat (encW u), .dat (encW v), .dat (encPs ps), .dat (.int 0), s4, s5]) (fun x => ps.all fun y => F u v x y) (.bool false) ps [.dat (encW u), .dat (encW v), .dat (encPs ps), .dat (.int 0), .un, .un] ⟨_, _, rfl⟩ (fun x hx ρ ⟨s4, s5, e⟩ => by
      subst e
      refine ⟨_, rfl, ?_⟩
      unfold encPs b__law_goes_0
      (simp only [x_seq, x_nx, x_rt, x_lnx, x_lct, x_lbk, x_lrt, x_bk, x_ct, x_nil, x_ret, x_set, x_asg, x_new, x_frz, x_if, x_drop, x_for, x_gN, x_gT, x_gsN, x_gsC, x_var, x_vvar, x_c, x_bin, x_un, x_of, x_tru, x_tand, x_tor, x_tnot, x_tT, x_and, x_or, x_not, x_eif, x_aN, x_aC, x_tup, x_lst, x_llst, x_call, x_eL, x_lseq, x_rng1, x_comp, x_comp2, x_app, x_ext, x_frzE, x_f1, x_f2, x_fn, x_start, x_rrt, x_rnx, all_D, any_D, x_bN, x_bC, x_asB, x_asI, x_truB, x_truI, x_seqL, x_seqT, x_lenL, x_lenT, x_tupL, x_tupT, x_int, x_wN, x_wC, x_ixT, x_ixL, x_isi, x_is_int_bool, x_is_int_int, x_is_int_str, x_is_int_tuple, x_is_int_list, x_is_int_dict, x_is_tup_bool, x_is_tup_int, x_is_tup_str, x_is_tup_tuple, x_is_tup_list, x_is_tup_dict, x_is_lst_bool, x_is_lst_int, x_is_lst_str, x_is_lst_tuple, x_is_lst_list, x_is_lst_dict, x_is_bl_bool, x_is_bl_int, x_is_bl_str, x_is_bl_tuple, x_is_bl_list, x_is_bl_dict, x_is_non_bool, x_is_non_int, x_is_non_str, x_is_non_tuple, x_is_non_list, x_is_non_dict, x_is_str_bool, x_is_str_int, x_is_str_str, x_is_str_tuple, x_is_str_list, x_is_str_dict, x_ite, x_itm, x_at0, x_at1, x_at2, x_addI, x_subI, x_pow18, x_mod, x_fdiv, x_sq, x_mul, x_mul', x_addT, x_addL, x_gt, x_ge, x_le, x_lt, eqD_int, neD_int, eqD_bool, neD_bool, getS, setS, List.map_cons, List.map_nil, List.length_cons, List.length_nil, List.cons_append, List.nil_append, List.replicate, Option.bind_some, Option.map_some, Option.bind_none, Option.map_none, if_true, if_false, ite_true, ite_false, reduceIte, Nat.reduceAdd, Nat.reduceSub, Nat.reduceLeDiff, Bool.false_eq_true, Nat.reduceEqDiff, Nat.le_refl, LIM, Bool.not_true, Bool.not_false, decide_true, decide_false, decide_eq_true_eq, Int.reduceEq, Int.reduceLT, Int.reduceLE, Int.reduceAdd, Int.reduceSub, Int.reduceNe, Int.reduceNeg, Int.cast_ofNat_Int, ne_eq, not_true_eq_false, not_false_eq_true])
      rw [compD_map encP encP (fun y => !F u v x y) ps fun y hy => ⟨_, rfl, by (simp only [x_seq, x_nx, x_rt, x_lnx, x_lct, x_lbk, x_lrt, x_bk, x_ct, x_nil, x_ret, x_set, x_asg, x_new, x_frz, x_if, x_drop, x_for, x_gN, x_gT, x_gsN, x_gsC, x_var, x_vvar, x_c, x_bin, x_un, x_of, x_tru, x_tand, x_tor, x_tnot, x_tT, x_and, x_or, x_not, x_eif, x_aN, x_aC, x_tup, x_lst, x_llst, x_call, x_eL, x_lseq, x_rng1, x_comp, x_comp2, x_app, x_ext, x_frzE, x_f1, x_f2, x_fn, x_start, x_rrt, x_rnx, all_D, any_D, x_bN, x_bC, x_asB, x_asI, x_truB, x_truI, x_seqL, x_seqT, x_lenL, x_lenT, x_tupL, x_tupT, x_int, x_wN, x_wC, x_ixT, x_ixL, x_isi, x_is_int_bool, x_is_int_int, x_is_int_str, x_is_int_tuple, x_is_int_list, x_is_int_dict, x_is_tup_bool, x_is_tup_int, x_is_tup_str, x_is_tup_tuple, x_is_tup_list, x_is_tup_dict, x_is_lst_bool, x_is_lst_int, x_is_lst_str, x_is_lst_tuple, x_is_lst_list, x_is_lst_dict, x_is_bl_bool, x_is_bl_int, x_is_bl_str, x_is_bl_tuple, x_is_bl_list, x_is_bl_dict, x_is_non_bool, x_is_non_int, x_is_non_str, x_is_non_tuple, x_is_non_list, x_is_non_dict, x_is_str_bool, x_is_str_int, x_is_str_str, x_is_str_tuple, x_is_str_list, x_is_str_dict, x_ite, x_itm, x_at0, x_at1, x_at2, x_addI, x_subI, x_pow18, x_mod, x_fdiv, x_sq, x_mul, x_mul', x_addT, x_addL, x_gt, x_ge, x_le, x_lt, eqD_int, neD_int, eqD_bool, neD_bool, getS, setS, List.map_cons, List.map_nil, List.length_cons, List.length_nil, List.cons_append, List.nil_append, List.replicate, Option.bind_some, Option.map_some, Option.bind_none, Option.map_none, if_true, if_false, ite_true, ite_false, reduceIte, Nat.reduceAdd, Nat.reduceSub, Nat.reduceLeDiff, Bool.false_eq_true, Nat.reduceEqDiff, Nat.le_refl, LIM, Bool.not_true, Bool.not_false, decide_true, decide_false, decide_eq_true_eq, Int.reduceEq, Int.reduceLT, Int.reduceLE, Int.reduceAdd, Int.reduceSub, Int.reduceNe, Int.reduceNeg, Int.cast_ofNat_Int, ne_eq, not_true_eq_false, not_false_eq_true]); rw [fit_eval]; (simp only [x_seq, x_nx, x_rt, x_lnx, x_lct, x_lbk, x_lrt, x_bk, x_ct, x_nil, x_ret, x_set, x_asg, x_new, x_frz, x_if, x_drop, x_for, x_gN, x_gT, x_gsN, x_gsC, x_var, x_vvar, x_c, x_bin, x_un, x_of, x_tru, x_tand, x_tor, x_tnot, x_tT, x_and, x_or, x_not, x_eif, x_aN, x_aC, x_tup, x_lst, x_llst, x_call, x_eL, x_lseq, x_rng1, x_comp, x_comp2, x_app, x_ext, x_frzE, x_f1, x_f2, x_fn, x_start, x_rrt, x_rnx, all_D, any_D, x_bN, x_bC, x_asB, x_asI, x_truB, x_truI, x_seqL, x_seqT, x_lenL, x_lenT, x_tupL, x_tupT, x_int, x_wN, x_wC, x_ixT, x_ixL, x_isi, x_is_int_bool, x_is_int_int, x_is_int_str, x_is_int_tuple, x_is_int_list, x_is_int_dict, x_is_tup_bool, x_is_tup_int, x_is_tup_str, x_is_tup_tuple, x_is_tup_list, x_is_tup_dict, x_is_lst_bool, x_is_lst_int, x_is_lst_str, x_is_lst_tuple, x_is_lst_list, x_is_lst_dict, x_is_bl_bool, x_is_bl_int, x_is_bl_str, x_is_bl_tuple, x_is_bl_list, x_is_bl_dict, x_is_non_bool, x_is_non_int, x_is_non_str, x_is_non_tuple, x_is_non_list, x_is_non_dict, x_is_str_bool, x_is_str_int, x_is_str_str, x_is_str_tuple, x_is_str_list, x_is_str_dict, x_ite, x_itm, x_at0, x_at1, x_at2, x_addI, x_subI, x_pow18, x_mod, x_fdiv, x_sq, x_mul, x_mul', x_addT, x_addL, x_gt, x_ge, x_le, x_lt, eqD_int, neD_int, eqD_bool, neD_bool, getS, setS, List.map_cons, List.map_nil, List.length_cons, List.length_nil, List.cons_append, List.nil_append, List.replicate, Option.bind_some, Option.map_some, Option.bind_none, Option.map_none, if_true, if_false, ite_true, ite_false, reduceIte, Nat.reduceAdd, Nat.reduceSub, Nat.reduceLeDiff, Bool.false_eq_true, Nat.reduceEqDiff, Nat.le_refl, LIM, Bool.not_true, Bool.not_false, decide_true, decide_false, decide_eq_true_eq, Int.reduceEq, Int.reduceLT, Int.reduceLE, Int.reduceAdd, Int.reduceSub, Int.reduceNe, Int.reduceNeg, Int.cast_ofNat_Int, ne_eq, not_true_eq_false, not_false_eq_true]), fun _ => rfl⟩]
      (simp only [x_seq, x_nx, x_rt, x_lnx, x_lct, x_lbk, x_lrt, x_bk, x_ct, x_nil, x_ret, x_set, x_asg, x_new, x_frz, x_if, x_drop, x_for, x_gN, x_gT, x_gsN, x_gsC, x_var, x_vvar, x_c, x_bin, x_un, x_of, x_tru, x_tand, x_tor, x_tnot, x_tT, x_and, x_or, x_not, x_eif, x_aN, x_aC, x_tup, x_lst, x_llst, x_call, x_eL, x_lseq, x_rng1, x_comp, x_comp2, x_app, x_ext, x_frzE, x_f1, x_f2, x_fn, x_start, x_rrt, x_rnx, all_D, any_D, x_bN, x_bC, x_asB, x_asI, x_truB, x_truI, x_seqL, x_seqT, x_lenL, x_lenT, x_tupL, x_tupT, x_int, x_wN, x_wC, x_ixT, x_ixL, x_isi, x_is_int_bool, x_is_int_int, x_is_int_str, x_is_int_tuple, x_is_int_list, x_is_int_dict, x_is_tup_bool, x_is_tup_int, x_is_tup_str, x_is_tup_tuple, x_is_tup_list, x_is_tup_dict, x_is_lst_bool, x_is_lst_int, x_is_lst_str, x_is_lst_tuple, x_is_lst_list, x_is_lst_dict, x_is_bl_bool, x_is_bl_int, x_is_bl_str, x_is_bl_tuple, x_is_bl_list, x_is_bl_dict, x_is_non_bool, x_is_non_int, x_is_non_str, x_is_non_tuple, x_is_non_list, x_is_non_dict, x_is_str_bool, x_is_str_int, x_is_str_str, x_is_str_tuple, x_is_str_list, x_is_str_dict, x_ite, x_itm, x_at0, x_at1, x_at2, x_addI, x_subI, x_pow18, x_mod, x_fdiv, x_sq, x_mul, x_mul', x_addT, x_addL, x_gt, x_ge, x_le, x_lt, eqD_int, neD_int, eqD_bool, neD_bool, getS, setS, List.map_cons, List.map_nil, List.length_cons, List.length_nil, List.cons_append, List.nil_append, List.replicate, Option.bind_some, Option.map_some, Option.bind_none, Option.map_none, if_true, if_false, ite_true, ite_false, reduceIte, Nat.reduceAdd, Nat.reduceSub, Nat.reduceLeDiff, Bool.false_eq_true, Nat.reduceEqDiff, Nat.le_refl, LIM, Bool.not_true, Bool.not_false, decide_true, decide_false, decide_eq_true_eq, Int.reduceEq, Int.reduceLT, Int.reduceLE, Int.reduceAdd, Int.reduceSub, Int.reduceNe, Int.reduceNeg, Int.cast_ofNat_Int, ne_eq, not_true_eq_false, not_false_eq_true])
      rw [List.length_map]
      have q := all_filter (F u v x) ps
      cases h : ps.all (F u v x)
      · rw [h] at q
        refine .inr ⟨rfl, ?_⟩
        rw [if_pos (of_decide_eq_true q)]
      · rw [h] at q
        refine .inl ⟨rfl, ?_⟩
        rw [if_neg (of_decide_eq_false q)]
        exact ⟨_, rfl, _, _, rfl⟩)
  rcases L with ⟨h, ρ', e, s4, s5, rfl⟩ | ⟨h, e⟩
  · unfold encPs at e ⊢
    (simp only [x_seq, x_nx, x_rt, x_lnx, x_lct, x_lbk, x_lrt, x_bk, x_ct, x_nil, x_ret, x_set, x_asg, x_new, x_frz, x_if, x_drop, x_for, x_gN, x_gT, x_gsN, x_gsC, x_var, x_vvar, x_c, x_bin, x_un, x_of, x_tru, x_tand, x_tor, x_tnot, x_tT, x_and, x_or, x_not, x_eif, x_aN, x_aC, x_tup, x_lst, x_llst, x_call, x_eL, x_lseq, x_rng1, x_comp, x_comp2, x_app, x_ext, x_frzE, x_f1, x_f2, x_fn, x_start, x_rrt, x_rnx, all_D, any_D, x_bN, x_bC, x_asB, x_asI, x_truB, x_truI, x_seqL, x_seqT, x_lenL, x_lenT, x_tupL, x_tupT, x_int, x_wN, x_wC, x_ixT, x_ixL, x_isi, x_is_int_bool, x_is_int_int, x_is_int_str, x_is_int_tuple, x_is_int_list, x_is_int_dict, x_is_tup_bool, x_is_tup_int, x_is_tup_str, x_is_tup_tuple, x_is_tup_list, x_is_tup_dict, x_is_lst_bool, x_is_lst_int, x_is_lst_str, x_is_lst_tuple, x_is_lst_list, x_is_lst_dict, x_is_bl_bool, x_is_bl_int, x_is_bl_str, x_is_bl_tuple, x_is_bl_list, x_is_bl_dict, x_is_non_bool, x_is_non_int, x_is_non_str, x_is_non_tuple, x_is_non_list, x_is_non_dict, x_is_str_bool, x_is_str_int, x_is_str_str, x_is_str_tuple, x_is_str_list, x_is_str_dict, x_ite, x_itm, x_at0, x_at1, x_at2, x_addI, x_subI, x_pow18, x_mod, x_fdiv, x_sq, x_mul, x_mul', x_addT, x_addL, x_gt, x_ge, x_le, x_lt, eqD_int, neD_int, eqD_bool, neD_bool, getS, setS, List.map_cons, List.map_nil, List.length_cons, List.length_nil, List.cons_append, List.nil_append, List.replicate, Option.bind_some, Option.map_some, Option.bind_none, Option.map_none, if_true, if_false, ite_true, ite_false, reduceIte, Nat.reduceAdd, Nat.reduceSub, Nat.reduceLeDiff, Bool.false_eq_true, Nat.reduceEqDiff, Nat.le_refl, LIM, Bool.not_true, Bool.not_false, decide_true, decide_false, decide_eq_true_eq, Int.reduceEq, Int.reduceLT, Int.reduceLE, Int.reduceAdd, Int.reduceSub, Int.reduceNe, Int.reduceNeg, Int.cast_ofNat_Int, ne_eq, not_true_eq_false, not_false_eq_true])
    rw [e]
    (simp only [x_seq, x_nx, x_rt, x_lnx, x_lct, x_lbk, x_lrt, x_bk, x_ct, x_nil, x_ret, x_set, x_asg, x_new, x_frz, x_if, x_drop, x_for, x_gN, x_gT, x_gsN, x_gsC, x_var, x_vvar, x_c, x_bin, x_un, x_of, x_tru, x_tand, x_tor, x_tnot, x_tT, x_and, x_or, x_not, x_eif, x_aN, x_aC, x_tup, x_lst, x_llst, x_call, x_eL, x_lseq, x_rng1, x_comp, x_comp2, x_app, x_ext, x_frzE, x_f1, x_f2, x_fn, x_start, x_rrt, x_rnx, all_D, any_D, x_bN, x_bC, x_asB, x_asI, x_truB, x_truI, x_seqL, x_seqT, x_lenL, x_lenT, x_tupL, x_tupT, x_int, x_wN, x_wC, x_ixT, x_ixL, x_isi, x_is_int_bool, x_is_int_int, x_is_int_str, x_is_int_tuple, x_is_int_list, x_is_int_dict, x_is_tup_bool, x_is_tup_int, x_is_tup_str, x_is_tup_tuple, x_is_tup_list, x_is_tup_dict, x_is_lst_bool, x_is_lst_int, x_is_lst_str, x_is_lst_tuple, x_is_lst_list, x_is_lst_dict, x_is_bl_bool, x_is_bl_int, x_is_bl_str, x_is_bl_tuple, x_is_bl_list, x_is_bl_dict, x_is_non_bool, x_is_non_int, x_is_non_str, x_is_non_tuple, x_is_non_list, x_is_non_dict, x_is_str_bool, x_is_str_int, x_is_str_str, x_is_str_tuple, x_is_str_list, x_is_str_dict, x_ite, x_itm, x_at0, x_at1, x_at2, x_addI, x_subI, x_pow18, x_mod, x_fdiv, x_sq, x_mul, x_mul', x_addT, x_addL, x_gt, x_ge, x_le, x_lt, eqD_int, neD_int, eqD_bool, neD_bool, getS, setS, List.map_cons, List.map_nil, List.length_cons, List.length_nil, List.cons_append, List.nil_append, List.replicate, Option.bind_some, Option.map_some, Option.bind_none, Option.map_none, if_true, if_false, ite_true, ite_false, reduceIte, Nat.reduceAdd, Nat.reduceSub, Nat.reduceLeDiff, Bool.false_eq_true, Nat.reduceEqDiff, Nat.le_refl, LIM, Bool.not_true, Bool.not_false, decide_true, decide_false, decide_eq_true_eq, Int.reduceEq, Int.reduceLT, Int.reduceLE, Int.reduceAdd, Int.reduceSub, Int.reduceNe, Int.reduceNeg, Int.cast_ofNat_Int, ne_eq, not_true_eq_false, not_false_eq_true])
    unfold allF
    rw [h]
  · unfold encPs at e ⊢
    (simp only [x_seq, x_nx, x_rt, x_lnx, x_lct, x_lbk, x_lrt, x_bk, x_ct, x_nil, x_ret, x_set, x_asg, x_new, x_frz, x_if, x_drop, x_for, x_gN, x_gT, x_gsN, x_gsC, x_var, x_vvar, x_c, x_bin, x_un, x_of, x_tru, x_tand, x_tor, x_tnot, x_tT, x_and, x_or, x_not, x_eif, x_aN, x_aC, x_tup, x_lst, x_llst, x_call, x_eL, x_lseq, x_rng1, x_comp, x_comp2, x_app, x_ext, x_frzE, x_f1, x_f2, x_fn, x_start, x_rrt, x_rnx, all_D, any_D, x_bN, x_bC, x_asB, x_asI, x_truB, x_truI, x_seqL, x_seqT, x_lenL, x_lenT, x_tupL, x_tupT, x_int, x_wN, x_wC, x_ixT, x_ixL, x_isi, x_is_int_bool, x_is_int_int, x_is_int_str, x_is_int_tuple, x_is_int_list, x_is_int_dict, x_is_tup_bool, x_is_tup_int, x_is_tup_str, x_is_tup_tuple, x_is_tup_list, x_is_tup_dict, x_is_lst_bool, x_is_lst_int, x_is_lst_str, x_is_lst_tuple, x_is_lst_list, x_is_lst_dict, x_is_bl_bool, x_is_bl_int, x_is_bl_str, x_is_bl_tuple, x_is_bl_list, x_is_bl_dict, x_is_non_bool, x_is_non_int, x_is_non_str, x_is_non_tuple, x_is_non_list, x_is_non_dict, x_is_str_bool, x_is_str_int, x_is_str_str, x_is_str_tuple, x_is_str_list, x_is_str_dict, x_ite, x_itm, x_at0, x_at1, x_at2, x_addI, x_subI, x_pow18, x_mod, x_fdiv, x_sq, x_mul, x_mul', x_addT, x_addL, x_gt, x_ge, x_le, x_lt, eqD_int, neD_int, eqD_bool, neD_bool, getS, setS, List.map_cons, List.map_nil, List.length_cons, List.length_nil, List.cons_append, List.nil_append, List.replicate, Option.bind_some, Option.map_some, Option.bind_none, Option.map_none, if_true, if_false, ite_true, ite_false, reduceIte, Nat.reduceAdd, Nat.reduceSub, Nat.reduceLeDiff, Bool.false_eq_true, Nat.reduceEqDiff, Nat.le_refl, LIM, Bool.not_true, Bool.not_false, decide_true, decide_false, decide_eq_true_eq, Int.reduceEq, Int.reduceLT, Int.reduceLE, Int.reduceAdd, Int.reduceSub, Int.reduceNe, Int.reduceNeg, Int.cast_ofNat_Int, ne_eq, not_true_eq_false, not_false_eq_true])
    rw [e]
    (simp only [x_seq, x_nx, x_rt, x_lnx, x_lct, x_lbk, x_lrt, x_bk, x_ct, x_nil, x_ret, x_set, x_asg, x_new, x_frz, x_if, x_drop, x_for, x_gN, x_gT, x_gsN, x_gsC, x_var, x_vvar, x_c, x_bin, x_un, x_of, x_tru, x_tand, x_tor, x_tnot, x_tT, x_and, x_or, x_not, x_eif, x_aN, x_aC, x_tup, x_lst, x_llst, x_call, x_eL, x_lseq, x_rng1, x_comp, x_comp2, x_app, x_ext, x_frzE, x_f1, x_f2, x_fn, x_start, x_rrt, x_rnx, all_D, any_D, x_bN, x_bC, x_asB, x_asI, x_truB, x_truI, x_seqL, x_seqT, x_lenL, x_lenT, x_tupL, x_tupT, x_int, x_wN, x_wC, x_ixT, x_ixL, x_isi, x_is_int_bool, x_is_int_int, x_is_int_str, x_is_int_tuple, x_is_int_list, x_is_int_dict, x_is_tup_bool, x_is_tup_int, x_is_tup_str, x_is_tup_tuple, x_is_tup_list, x_is_tup_dict, x_is_lst_bool, x_is_lst_int, x_is_lst_str, x_is_lst_tuple, x_is_lst_list, x_is_lst_dict, x_is_bl_bool, x_is_bl_int, x_is_bl_str, x_is_bl_tuple, x_is_bl_list, x_is_bl_dict, x_is_non_bool, x_is_non_int, x_is_non_str, x_is_non_tuple, x_is_non_list, x_is_non_dict, x_is_str_bool, x_is_str_int, x_is_str_str, x_is_str_tuple, x_is_str_list, x_is_str_dict, x_ite, x_itm, x_at0, x_at1, x_at2, x_addI, x_subI, x_pow18, x_mod, x_fdiv, x_sq, x_mul, x_mul', x_addT, x_addL, x_gt, x_ge, x_le, x_lt, eqD_int, neD_int, eqD_bool, neD_bool, getS, setS, List.map_cons, List.map_nil, List.length_cons, List.length_nil, List.cons_append, List.nil_append, List.replicate, Option.bind_some, Option.map_some, Option.bind_none, Option.map_none, if_true, if_false, ite_true, ite_false, reduceIte, Nat.reduceAdd, Nat.reduceSub, Nat.reduceLeDiff, Bool.false_eq_true, Nat.reduceEqDiff, Nat.le_refl, LIM, Bool.not_true, Bool.not_false, decide_true, decide_false, decide_eq_true_eq, Int.reduceEq, Int.reduceLT, Int.reduceLE, Int.reduceAdd, Int.reduceSub, Int.reduceNe, Int.reduceNeg, Int.cast_ofNat_Int, ne_eq, not_true_eq_false, not_false_eq_true])
    unfold allF
    rw [h]
/-! ### the ways, by levels and by depth -/
def prs (b : List Int) (x : Int) : List (Int × Int) := ((List.range b.length).map fun k : Nat => ((k : Int), b.getD k 0)) ++ [((b.length : Int), x)]
def good (u v : Wd) (b : List Int) (x : Int) : Bool := (prs b x).all fun p => F u v ((b.length : Int), x) p
def dfs (u v : Wd) : Nat → List Int → List (List Int)
  | 0, b => [b]
  | r + 1, b => (rng v.n).flatMap fun x => if good u v b x = true then dfs u v r (b ++ [x]) else []
theorem flat_le {α β : Type} (f : α → List β) (m : Nat) : ∀ l : List α, (∀ x ∈ l, (f x).length ≤ m) → (l.flatMap f).length ≤ l.length * m
  | [], _ => Nat.zero_le _
  | x :: l, h => by
    rw [List.flatMap_cons, List.length_append, List.length_cons, Nat.succ_mul]
    have := flat_le f m l fun y hy => h y (List.mem_cons_of_mem _ hy)
    have := h x List.mem_cons_self
    omega
theorem dfs_le (u v : Wd) : ∀ (r : Nat) (b : List Int), (dfs u v r b).length ≤ v.n ^ r
  | 0, b => by show 1 ≤ _; rw [Nat.pow_zero]; exact Nat.le_refl _
  | r + 1, b => by
    have := flat_le (fun x => if good u v b x = true then dfs u v r (b ++ [x]) else []) (v.n ^ r) (rng v.n) fun x _ => by
      show (if good u v b x = true then dfs u v r (b ++ [x]) else []).length ≤ _
      split
      · exact dfs_le u v r (b ++ [x])
      · exact Nat.zero_le _
    rw [len_rng] at this
    rw [Nat.pow_succ, Nat.mul_comm]
    exact this
theorem prs_eval (b : List Int) (x : Int) : (prs b x).map encP = ((List.range b.length).map fun k : Nat => PyData.tuple [.int k, .int (b.getD k 0)]) ++ [PyData.tuple [.int b.length, .int x]] := by
  unfold prs
  rw [List.map_append, List.map_map] <;> rfl
theorem encI_at (b : List Int) {k : Nat} (h : k < b.length) : atI (b.map PyData.int) (k : Int) = some (.int (b.getD k 0)) := by
  rw [x_atN, List.getElem?_map, List.getElem?_eq_getElem h, List.getD_eq_getElem?_getD, List.getElem?_eq_getElem h] <;> rfl
theorem like_eval (u v : Wd) (hv : 1 ≤ v.n) (hb : v.n ^ u.n ≤ 16777216) (hu : u.n ≤ 100) (hvn : v.n ≤ 16777216) : ∀ (r k : Nat) (b : List Int), b.length + r = u.n → r < k → m_likenesses k [encW u, encW v, encI b] = some (.list ((dfs u v r b).map encI))
  | r, 0, b, _, hk => absurd hk (Nat.not_lt_zero _)
  | r, k + 1, b, hl, hk => by
    show fnD 3 9 (S_likenesses (m_likenesses k)) [encW u, encW v, encI b] = _
    unfold S_likenesses encI
    (simp only [x_seq, x_nx, x_rt, x_lnx, x_lct, x_lbk, x_lrt, x_bk, x_ct, x_nil, x_ret, x_set, x_asg, x_new, x_frz, x_if, x_drop, x_for, x_gN, x_gT, x_gsN, x_gsC, x_var, x_vvar, x_c, x_bin, x_un, x_of, x_tru, x_tand, x_tor, x_tnot, x_tT, x_and, x_or, x_not, x_eif, x_aN, x_aC, x_tup, x_lst, x_llst, x_call, x_eL, x_lseq, x_rng1, x_comp, x_comp2, x_app, x_ext, x_frzE, x_f1, x_f2, x_fn, x_start, x_rrt, x_rnx, all_D, any_D, x_bN, x_bC, x_asB, x_asI, x_truB, x_truI, x_seqL, x_seqT, x_lenL, x_lenT, x_tupL, x_tupT, x_int, x_wN, x_wC, x_ixT, x_ixL, x_isi, x_is_int_bool, x_is_int_int, x_is_int_str, x_is_int_tuple, x_is_int_list, x_is_int_dict, x_is_tup_bool, x_is_tup_int, x_is_tup_str, x_is_tup_tuple, x_is_tup_list, x_is_tup_dict, x_is_lst_bool, x_is_lst_int, x_is_lst_str, x_is_lst_tuple, x_is_lst_list, x_is_lst_dict, x_is_bl_bool, x_is_bl_int, x_is_bl_str, x_is_bl_tuple, x_is_bl_list, x_is_bl_dict, x_is_non_bool, x_is_non_int, x_is_non_str, x_is_non_tuple, x_is_non_list, x_is_non_dict, x_is_str_bool, x_is_str_int, x_is_str_str, x_is_str_tuple, x_is_str_list, x_is_str_dict, x_ite, x_itm, x_at0, x_at1, x_at2, x_addI, x_subI, x_pow18, x_mod, x_fdiv, x_sq, x_mul, x_mul', x_addT, x_addL, x_gt, x_ge, x_le, x_lt, eqD_int, neD_int, eqD_bool, neD_bool, getS, setS, List.map_cons, List.map_nil, List.length_cons, List.length_nil, List.cons_append, List.nil_append, List.replicate, Option.bind_some, Option.map_some, Option.bind_none, Option.map_none, if_true, if_false, ite_true, ite_false, reduceIte, Nat.reduceAdd, Nat.reduceSub, Nat.reduceLeDiff, Bool.false_eq_true, Nat.reduceEqDiff, Nat.le_refl, LIM, Bool.not_true, Bool.not_false, decide_true, decide_false, decide_eq_true_eq, Int.reduceEq, Int.reduceLT, Int.reduceLE, Int.reduceAdd, Int.reduceSub, Int.reduceNe, Int.reduceNeg, Int.cast_ofNat_Int, ne_eq, not_true_eq_false, not_false_eq_true])
    unfold encW
    (simp only [x_seq, x_nx, x_rt, x_lnx, x_lct, x_lbk, x_lrt, x_bk, x_ct, x_nil, x_ret, x_set, x_asg, x_new, x_frz, x_if, x_drop, x_for, x_gN, x_gT, x_gsN, x_gsC, x_var, x_vvar, x_c, x_bin, x_un, x_of, x_tru, x_tand, x_tor, x_tnot, x_tT, x_and, x_or, x_not, x_eif, x_aN, x_aC, x_tup, x_lst, x_llst, x_call, x_eL, x_lseq, x_rng1, x_comp, x_comp2, x_app, x_ext, x_frzE, x_f1, x_f2, x_fn, x_start, x_rrt, x_rnx, all_D, any_D, x_bN, x_bC, x_asB, x_asI, x_truB, x_truI, x_seqL, x_seqT, x_lenL, x_lenT, x_tupL, x_tupT, x_int, x_wN, x_wC, x_ixT, x_ixL, x_isi, x_is_int_bool, x_is_int_int, x_is_int_str, x_is_int_tuple, x_is_int_list, x_is_int_dict, x_is_tup_bool, x_is_tup_int, x_is_tup_str, x_is_tup_tuple, x_is_tup_list, x_is_tup_dict, x_is_lst_bool, x_is_lst_int, x_is_lst_str, x_is_lst_tuple, x_is_lst_list, x_is_lst_dict, x_is_bl_bool, x_is_bl_int, x_is_bl_str, x_is_bl_tuple, x_is_bl_list, x_is_bl_dict, x_is_non_bool, x_is_non_int, x_is_non_str, x_is_non_tuple, x_is_non_list, x_is_non_dict, x_is_str_bool, x_is_str_int, x_is_str_str, x_is_str_tuple, x_is_str_list, x_is_str_dict, x_ite, x_itm, x_at0, x_at1, x_at2, x_addI, x_subI, x_pow18, x_mod, x_fdiv, x_sq, x_mul, x_mul', x_addT, x_addL, x_gt, x_ge, x_le, x_lt, eqD_int, neD_int, eqD_bool, neD_bool, getS, setS, List.map_cons, List.map_nil, List.length_cons, List.length_nil, List.cons_append, List.nil_append, List.replicate, Option.bind_some, Option.map_some, Option.bind_none, Option.map_none, if_true, if_false, ite_true, ite_false, reduceIte, Nat.reduceAdd, Nat.reduceSub, Nat.reduceLeDiff, Bool.false_eq_true, Nat.reduceEqDiff, Nat.le_refl, LIM, Bool.not_true, Bool.not_false, decide_true, decide_false, decide_eq_true_eq, Int.reduceEq, Int.reduceLT, Int.reduceLE, Int.reduceAdd, Int.reduceSub, Int.reduceNe, Int.reduceNeg, Int.cast_ofNat_Int, ne_eq, not_true_eq_false, not_false_eq_true])
    simp only [List.length_map]
    cases r with
    | zero =>
      rw [if_pos (by omega)]
      rfl
    | succ r =>
      rw [if_neg (by omega)]
      rw [rngD_nat hvn]
      (simp only [x_seq, x_nx, x_rt, x_lnx, x_lct, x_lbk, x_lrt, x_bk, x_ct, x_nil, x_ret, x_set, x_asg, x_new, x_frz, x_if, x_drop, x_for, x_gN, x_gT, x_gsN, x_gsC, x_var, x_vvar, x_c, x_bin, x_un, x_of, x_tru, x_tand, x_tor, x_tnot, x_tT, x_and, x_or, x_not, x_eif, x_aN, x_aC, x_tup, x_lst, x_llst, x_call, x_eL, x_lseq, x_rng1, x_comp, x_comp2, x_app, x_ext, x_frzE, x_f1, x_f2, x_fn, x_start, x_rrt, x_rnx, all_D, any_D, x_bN, x_bC, x_asB, x_asI, x_truB, x_truI, x_seqL, x_seqT, x_lenL, x_lenT, x_tupL, x_tupT, x_int, x_wN, x_wC, x_ixT, x_ixL, x_isi, x_is_int_bool, x_is_int_int, x_is_int_str, x_is_int_tuple, x_is_int_list, x_is_int_dict, x_is_tup_bool, x_is_tup_int, x_is_tup_str, x_is_tup_tuple, x_is_tup_list, x_is_tup_dict, x_is_lst_bool, x_is_lst_int, x_is_lst_str, x_is_lst_tuple, x_is_lst_list, x_is_lst_dict, x_is_bl_bool, x_is_bl_int, x_is_bl_str, x_is_bl_tuple, x_is_bl_list, x_is_bl_dict, x_is_non_bool, x_is_non_int, x_is_non_str, x_is_non_tuple, x_is_non_list, x_is_non_dict, x_is_str_bool, x_is_str_int, x_is_str_str, x_is_str_tuple, x_is_str_list, x_is_str_dict, x_ite, x_itm, x_at0, x_at1, x_at2, x_addI, x_subI, x_pow18, x_mod, x_fdiv, x_sq, x_mul, x_mul', x_addT, x_addL, x_gt, x_ge, x_le, x_lt, eqD_int, neD_int, eqD_bool, neD_bool, getS, setS, List.map_cons, List.map_nil, List.length_cons, List.length_nil, List.cons_append, List.nil_append, List.replicate, Option.bind_some, Option.map_some, Option.bind_none, Option.map_none, if_true, if_false, ite_true, ite_false, reduceIte, Nat.reduceAdd, Nat.reduceSub, Nat.reduceLeDiff, Bool.false_eq_true, Nat.reduceEqDiff, Nat.le_refl, LIM, Bool.not_true, Bool.not_false, decide_true, decide_false, decide_eq_true_eq, Int.reduceEq, Int.reduceLT, Int.reduceLE, Int.reduceAdd, Int.reduceSub, Int.reduceNe, Int.reduceNeg, Int.cast_ofNat_Int, ne_eq, not_true_eq_false, not_false_eq_true])
      have hone : v.n ^ (r + 1) ≤ 16777216 := Nat.le_trans (Nat.pow_le_pow_right hv (by omega)) hb
      have L := forD_at (gg := gN 5) (S := b_likenesses_0 (m_likenesses k)) PyData.int
        (fun done ρ => ∃ s5 s6 s7 s8, ρ = [.dat (encW u), .dat (encW v), .dat (encI b), .dat (.int b.length), .own ((done.flatMap fun x => if good u v b x = true then dfs u v r (b ++ [x]) else []).map encI), s5, s6, s7, s8]) (rng v.n) [] _ ⟨.un, .un, .un, .un, rfl⟩ (fun d x rest hd ρ ⟨s5, s6, s7, s8, e⟩ => by
          subst e
          rw [List.nil_append] at hd
          refine ⟨_, rfl, ?_⟩
          unfold b_likenesses_0
          (simp only [x_seq, x_nx, x_rt, x_lnx, x_lct, x_lbk, x_lrt, x_bk, x_ct, x_nil, x_ret, x_set, x_asg, x_new, x_frz, x_if, x_drop, x_for, x_gN, x_gT, x_gsN, x_gsC, x_var, x_vvar, x_c, x_bin, x_un, x_of, x_tru, x_tand, x_tor, x_tnot, x_tT, x_and, x_or, x_not, x_eif, x_aN, x_aC, x_tup, x_lst, x_llst, x_call, x_eL, x_lseq, x_rng1, x_comp, x_comp2, x_app, x_ext, x_frzE, x_f1, x_f2, x_fn, x_start, x_rrt, x_rnx, all_D, any_D, x_bN, x_bC, x_asB, x_asI, x_truB, x_truI, x_seqL, x_seqT, x_lenL, x_lenT, x_tupL, x_tupT, x_int, x_wN, x_wC, x_ixT, x_ixL, x_isi, x_is_int_bool, x_is_int_int, x_is_int_str, x_is_int_tuple, x_is_int_list, x_is_int_dict, x_is_tup_bool, x_is_tup_int, x_is_tup_str, x_is_tup_tuple, x_is_tup_list, x_is_tup_dict, x_is_lst_bool, x_is_lst_int, x_is_lst_str, x_is_lst_tuple, x_is_lst_list, x_is_lst_dict, x_is_bl_bool, x_is_bl_int, x_is_bl_str, x_is_bl_tuple, x_is_bl_list, x_is_bl_dict, x_is_non_bool, x_is_non_int, x_is_non_str, x_is_non_tuple, x_is_non_list, x_is_non_dict, x_is_str_bool, x_is_str_int, x_is_str_str, x_is_str_tuple, x_is_str_list, x_is_str_dict, x_ite, x_itm, x_at0, x_at1, x_at2, x_addI, x_subI, x_pow18, x_mod, x_fdiv, x_sq, x_mul, x_mul', x_addT, x_addL, x_gt, x_ge, x_le, x_lt, eqD_int, neD_int, eqD_bool, neD_bool, getS, setS, List.map_cons, List.map_nil, List.length_cons, List.length_nil, List.cons_append, List.nil_append, List.replicate, Option.bind_some, Option.map_some, Option.bind_none, Option.map_none, if_true, if_false, ite_true, ite_false, reduceIte, Nat.reduceAdd, Nat.reduceSub, Nat.reduceLeDiff, Bool.false_eq_true, Nat.reduceEqDiff, Nat.le_refl, LIM, Bool.not_true, Bool.not_false, decide_true, decide_false, decide_eq_true_eq, Int.reduceEq, Int.reduceLT, Int.reduceLE, Int.reduceAdd, Int.reduceSub, Int.reduceNe, Int.reduceNeg, Int.cast_ofNat_Int, ne_eq, not_true_eq_false, not_false_eq_true])
          rw [rngD_nat (show b.length ≤ 16777216 by omega)]
          (simp only [x_seq, x_nx, x_rt, x_lnx, x_lct, x_lbk, x_lrt, x_bk, x_ct, x_nil, x_ret, x_set, x_asg, x_new, x_frz, x_if, x_drop, x_for, x_gN, x_gT, x_gsN, x_gsC, x_var, x_vvar, x_c, x_bin, x_un, x_of, x_tru, x_tand, x_tor, x_tnot, x_tT, x_and, x_or, x_not, x_eif, x_aN, x_aC, x_tup, x_lst, x_llst, x_call, x_eL, x_lseq, x_rng1, x_comp, x_comp2, x_app, x_ext, x_frzE, x_f1, x_f2, x_fn, x_start, x_rrt, x_rnx, all_D, any_D, x_bN, x_bC, x_asB, x_asI, x_truB, x_truI, x_seqL, x_seqT, x_lenL, x_lenT, x_tupL, x_tupT, x_int, x_wN, x_wC, x_ixT, x_ixL, x_isi, x_is_int_bool, x_is_int_int, x_is_int_str, x_is_int_tuple, x_is_int_list, x_is_int_dict, x_is_tup_bool, x_is_tup_int, x_is_tup_str, x_is_tup_tuple, x_is_tup_list, x_is_tup_dict, x_is_lst_bool, x_is_lst_int, x_is_lst_str, x_is_lst_tuple, x_is_lst_list, x_is_lst_dict, x_is_bl_bool, x_is_bl_int, x_is_bl_str, x_is_bl_tuple, x_is_bl_list, x_is_bl_dict, x_is_non_bool, x_is_non_int, x_is_non_str, x_is_non_tuple, x_is_non_list, x_is_non_dict, x_is_str_bool, x_is_str_int, x_is_str_str, x_is_str_tuple, x_is_str_list, x_is_str_dict, x_ite, x_itm, x_at0, x_at1, x_at2, x_addI, x_subI, x_pow18, x_mod, x_fdiv, x_sq, x_mul, x_mul', x_addT, x_addL, x_gt, x_ge, x_le, x_lt, eqD_int, neD_int, eqD_bool, neD_bool, getS, setS, List.map_cons, List.map_nil, List.length_cons, List.length_nil, List.cons_append, List.nil_append, List.replicate, Option.bind_some, Option.map_some, Option.bind_none, Option.map_none, if_true, if_false, ite_true, ite_false, reduceIte, Nat.reduceAdd, Nat.reduceSub, Nat.reduceLeDiff, Bool.false_eq_true, Nat.reduceEqDiff, Nat.le_refl, LIM, Bool.not_true, Bool.not_false, decide_true, decide_false, decide_eq_true_eq, Int.reduceEq, Int.reduceLT, Int.reduceLE, Int.reduceAdd, Int.reduceSub, Int.reduceNe, Int.reduceNeg, Int.cast_ofNat_Int, ne_eq, not_true_eq_false, not_false_eq_true])
          unfold encI rng
          rw [List.map_map, compD_all _ (fun k : Nat => PyData.tuple [.int k, .int (b.getD k 0)]) (List.range b.length) fun k' hk' => ⟨_, rfl, by (simp only [x_seq, x_nx, x_rt, x_lnx, x_lct, x_lbk, x_lrt, x_bk, x_ct, x_nil, x_ret, x_set, x_asg, x_new, x_frz, x_if, x_drop, x_for, x_gN, x_gT, x_gsN, x_gsC, x_var, x_vvar, x_c, x_bin, x_un, x_of, x_tru, x_tand, x_tor, x_tnot, x_tT, x_and, x_or, x_not, x_eif, x_aN, x_aC, x_tup, x_lst, x_llst, x_call, x_eL, x_lseq, x_rng1, x_comp, x_comp2, x_app, x_ext, x_frzE, x_f1, x_f2, x_fn, x_start, x_rrt, x_rnx, all_D, any_D, x_bN, x_bC, x_asB, x_asI, x_truB, x_truI, x_seqL, x_seqT, x_lenL, x_lenT, x_tupL, x_tupT, x_int, x_wN, x_wC, x_ixT, x_ixL, x_isi, x_is_int_bool, x_is_int_int, x_is_int_str, x_is_int_tuple, x_is_int_list, x_is_int_dict, x_is_tup_bool, x_is_tup_int, x_is_tup_str, x_is_tup_tuple, x_is_tup_list, x_is_tup_dict, x_is_lst_bool, x_is_lst_int, x_is_lst_str, x_is_lst_tuple, x_is_lst_list, x_is_lst_dict, x_is_bl_bool, x_is_bl_int, x_is_bl_str, x_is_bl_tuple, x_is_bl_list, x_is_bl_dict, x_is_non_bool, x_is_non_int, x_is_non_str, x_is_non_tuple, x_is_non_list, x_is_non_dict, x_is_str_bool, x_is_str_int, x_is_str_str, x_is_str_tuple, x_is_str_list, x_is_str_dict, x_ite, x_itm, x_at0, x_at1, x_at2, x_addI, x_subI, x_pow18, x_mod, x_fdiv, x_sq, x_mul, x_mul', x_addT, x_addL, x_gt, x_ge, x_le, x_lt, eqD_int, neD_int, eqD_bool, neD_bool, getS, setS, List.map_cons, List.map_nil, List.length_cons, List.length_nil, List.cons_append, List.nil_append, List.replicate, Option.bind_some, Option.map_some, Option.bind_none, Option.map_none, if_true, if_false, ite_true, ite_false, reduceIte, Nat.reduceAdd, Nat.reduceSub, Nat.reduceLeDiff, Bool.false_eq_true, Nat.reduceEqDiff, Nat.le_refl, LIM, Bool.not_true, Bool.not_false, decide_true, decide_false, decide_eq_true_eq, Int.reduceEq, Int.reduceLT, Int.reduceLE, Int.reduceAdd, Int.reduceSub, Int.reduceNe, Int.reduceNeg, Int.cast_ofNat_Int, ne_eq, not_true_eq_false, not_false_eq_true]); rw [show ((PyData.int ∘ fun k : Nat => (k : Int)) k') = PyData.int (k' : Int) from rfl]; (simp only [x_seq, x_nx, x_rt, x_lnx, x_lct, x_lbk, x_lrt, x_bk, x_ct, x_nil, x_ret, x_set, x_asg, x_new, x_frz, x_if, x_drop, x_for, x_gN, x_gT, x_gsN, x_gsC, x_var, x_vvar, x_c, x_bin, x_un, x_of, x_tru, x_tand, x_tor, x_tnot, x_tT, x_and, x_or, x_not, x_eif, x_aN, x_aC, x_tup, x_lst, x_llst, x_call, x_eL, x_lseq, x_rng1, x_comp, x_comp2, x_app, x_ext, x_frzE, x_f1, x_f2, x_fn, x_start, x_rrt, x_rnx, all_D, any_D, x_bN, x_bC, x_asB, x_asI, x_truB, x_truI, x_seqL, x_seqT, x_lenL, x_lenT, x_tupL, x_tupT, x_int, x_wN, x_wC, x_ixT, x_ixL, x_isi, x_is_int_bool, x_is_int_int, x_is_int_str, x_is_int_tuple, x_is_int_list, x_is_int_dict, x_is_tup_bool, x_is_tup_int, x_is_tup_str, x_is_tup_tuple, x_is_tup_list, x_is_tup_dict, x_is_lst_bool, x_is_lst_int, x_is_lst_str, x_is_lst_tuple, x_is_lst_list, x_is_lst_dict, x_is_bl_bool, x_is_bl_int, x_is_bl_str, x_is_bl_tuple, x_is_bl_list, x_is_bl_dict, x_is_non_bool, x_is_non_int, x_is_non_str, x_is_non_tuple, x_is_non_list, x_is_non_dict, x_is_str_bool, x_is_str_int, x_is_str_str, x_is_str_tuple, x_is_str_list, x_is_str_dict, x_ite, x_itm, x_at0, x_at1, x_at2, x_addI, x_subI, x_pow18, x_mod, x_fdiv, x_sq, x_mul, x_mul', x_addT, x_addL, x_gt, x_ge, x_le, x_lt, eqD_int, neD_int, eqD_bool, neD_bool, getS, setS, List.map_cons, List.map_nil, List.length_cons, List.length_nil, List.cons_append, List.nil_append, List.replicate, Option.bind_some, Option.map_some, Option.bind_none, Option.map_none, if_true, if_false, ite_true, ite_false, reduceIte, Nat.reduceAdd, Nat.reduceSub, Nat.reduceLeDiff, Bool.false_eq_true, Nat.reduceEqDiff, Nat.le_refl, LIM, Bool.not_true, Bool.not_false, decide_true, decide_false, decide_eq_true_eq, Int.reduceEq, Int.reduceLT, Int.reduceLE, Int.reduceAdd, Int.reduceSub, Int.reduceNe, Int.reduceNeg, Int.cast_ofNat_Int, ne_eq, not_true_eq_false, not_false_eq_true]); rw [encI_at b (List.mem_range.mp hk')]; (simp only [x_seq, x_nx, x_rt, x_lnx, x_lct, x_lbk, x_lrt, x_bk, x_ct, x_nil, x_ret, x_set, x_asg, x_new, x_frz, x_if, x_drop, x_for, x_gN, x_gT, x_gsN, x_gsC, x_var, x_vvar, x_c, x_bin, x_un, x_of, x_tru, x_tand, x_tor, x_tnot, x_tT, x_and, x_or, x_not, x_eif, x_aN, x_aC, x_tup, x_lst, x_llst, x_call, x_eL, x_lseq, x_rng1, x_comp, x_comp2, x_app, x_ext, x_frzE, x_f1, x_f2, x_fn, x_start, x_rrt, x_rnx, all_D, any_D, x_bN, x_bC, x_asB, x_asI, x_truB, x_truI, x_seqL, x_seqT, x_lenL, x_lenT, x_tupL, x_tupT, x_int, x_wN, x_wC, x_ixT, x_ixL, x_isi, x_is_int_bool, x_is_int_int, x_is_int_str, x_is_int_tuple, x_is_int_list, x_is_int_dict, x_is_tup_bool, x_is_tup_int, x_is_tup_str, x_is_tup_tuple, x_is_tup_list, x_is_tup_dict, x_is_lst_bool, x_is_lst_int, x_is_lst_str, x_is_lst_tuple, x_is_lst_list, x_is_lst_dict, x_is_bl_bool, x_is_bl_int, x_is_bl_str, x_is_bl_tuple, x_is_bl_list, x_is_bl_dict, x_is_non_bool, x_is_non_int, x_is_non_str, x_is_non_tuple, x_is_non_list, x_is_non_dict, x_is_str_bool, x_is_str_int, x_is_str_str, x_is_str_tuple, x_is_str_list, x_is_str_dict, x_ite, x_itm, x_at0, x_at1, x_at2, x_addI, x_subI, x_pow18, x_mod, x_fdiv, x_sq, x_mul, x_mul', x_addT, x_addL, x_gt, x_ge, x_le, x_lt, eqD_int, neD_int, eqD_bool, neD_bool, getS, setS, List.map_cons, List.map_nil, List.length_cons, List.length_nil, List.cons_append, List.nil_append, List.replicate, Option.bind_some, Option.map_some, Option.bind_none, Option.map_none, if_true, if_false, ite_true, ite_false, reduceIte, Nat.reduceAdd, Nat.reduceSub, Nat.reduceLeDiff, Bool.false_eq_true, Nat.reduceEqDiff, Nat.le_refl, LIM, Bool.not_true, Bool.not_false, decide_true, decide_false, decide_eq_true_eq, Int.reduceEq, Int.reduceLT, Int.reduceLE, Int.reduceAdd, Int.reduceSub, Int.reduceNe, Int.reduceNeg, Int.cast_ofNat_Int, ne_eq, not_true_eq_false, not_false_eq_true])⟩]
          (simp only [x_seq, x_nx, x_rt, x_lnx, x_lct, x_lbk, x_lrt, x_bk, x_ct, x_nil, x_ret, x_set, x_asg, x_new, x_frz, x_if, x_drop, x_for, x_gN, x_gT, x_gsN, x_gsC, x_var, x_vvar, x_c, x_bin, x_un, x_of, x_tru, x_tand, x_tor, x_tnot, x_tT, x_and, x_or, x_not, x_eif, x_aN, x_aC, x_tup, x_lst, x_llst, x_call, x_eL, x_lseq, x_rng1, x_comp, x_comp2, x_app, x_ext, x_frzE, x_f1, x_f2, x_fn, x_start, x_rrt, x_rnx, all_D, any_D, x_bN, x_bC, x_asB, x_asI, x_truB, x_truI, x_seqL, x_seqT, x_lenL, x_lenT, x_tupL, x_tupT, x_int, x_wN, x_wC, x_ixT, x_ixL, x_isi, x_is_int_bool, x_is_int_int, x_is_int_str, x_is_int_tuple, x_is_int_list, x_is_int_dict, x_is_tup_bool, x_is_tup_int, x_is_tup_str, x_is_tup_tuple, x_is_tup_list, x_is_tup_dict, x_is_lst_bool, x_is_lst_int, x_is_lst_str, x_is_lst_tuple, x_is_lst_list, x_is_lst_dict, x_is_bl_bool, x_is_bl_int, x_is_bl_str, x_is_bl_tuple, x_is_bl_list, x_is_bl_dict, x_is_non_bool, x_is_non_int, x_is_non_str, x_is_non_tuple, x_is_non_list, x_is_non_dict, x_is_str_bool, x_is_str_int, x_is_str_str, x_is_str_tuple, x_is_str_list, x_is_str_dict, x_ite, x_itm, x_at0, x_at1, x_at2, x_addI, x_subI, x_pow18, x_mod, x_fdiv, x_sq, x_mul, x_mul', x_addT, x_addL, x_gt, x_ge, x_le, x_lt, eqD_int, neD_int, eqD_bool, neD_bool, getS, setS, List.map_cons, List.map_nil, List.length_cons, List.length_nil, List.cons_append, List.nil_append, List.replicate, Option.bind_some, Option.map_some, Option.bind_none, Option.map_none, if_true, if_false, ite_true, ite_false, reduceIte, Nat.reduceAdd, Nat.reduceSub, Nat.reduceLeDiff, Bool.false_eq_true, Nat.reduceEqDiff, Nat.le_refl, LIM, Bool.not_true, Bool.not_false, decide_true, decide_false, decide_eq_true_eq, Int.reduceEq, Int.reduceLT, Int.reduceLE, Int.reduceAdd, Int.reduceSub, Int.reduceNe, Int.reduceNeg, Int.cast_ofNat_Int, ne_eq, not_true_eq_false, not_false_eq_true])
          rw [if_pos (by rw [List.length_map, List.length_range]; omega), ← prs_eval b x, compD_all encP (fun p => PyData.bool (F u v ((b.length : Int), x) p)) (prs b x) fun p hp => ⟨_, rfl, by (simp only [x_seq, x_nx, x_rt, x_lnx, x_lct, x_lbk, x_lrt, x_bk, x_ct, x_nil, x_ret, x_set, x_asg, x_new, x_frz, x_if, x_drop, x_for, x_gN, x_gT, x_gsN, x_gsC, x_var, x_vvar, x_c, x_bin, x_un, x_of, x_tru, x_tand, x_tor, x_tnot, x_tT, x_and, x_or, x_not, x_eif, x_aN, x_aC, x_tup, x_lst, x_llst, x_call, x_eL, x_lseq, x_rng1, x_comp, x_comp2, x_app, x_ext, x_frzE, x_f1, x_f2, x_fn, x_start, x_rrt, x_rnx, all_D, any_D, x_bN, x_bC, x_asB, x_asI, x_truB, x_truI, x_seqL, x_seqT, x_lenL, x_lenT, x_tupL, x_tupT, x_int, x_wN, x_wC, x_ixT, x_ixL, x_isi, x_is_int_bool, x_is_int_int, x_is_int_str, x_is_int_tuple, x_is_int_list, x_is_int_dict, x_is_tup_bool, x_is_tup_int, x_is_tup_str, x_is_tup_tuple, x_is_tup_list, x_is_tup_dict, x_is_lst_bool, x_is_lst_int, x_is_lst_str, x_is_lst_tuple, x_is_lst_list, x_is_lst_dict, x_is_bl_bool, x_is_bl_int, x_is_bl_str, x_is_bl_tuple, x_is_bl_list, x_is_bl_dict, x_is_non_bool, x_is_non_int, x_is_non_str, x_is_non_tuple, x_is_non_list, x_is_non_dict, x_is_str_bool, x_is_str_int, x_is_str_str, x_is_str_tuple, x_is_str_list, x_is_str_dict, x_ite, x_itm, x_at0, x_at1, x_at2, x_addI, x_subI, x_pow18, x_mod, x_fdiv, x_sq, x_mul, x_mul', x_addT, x_addL, x_gt, x_ge, x_le, x_lt, eqD_int, neD_int, eqD_bool, neD_bool, getS, setS, List.map_cons, List.map_nil, List.length_cons, List.length_nil, List.cons_append, List.nil_append, List.replicate, Option.bind_some, Option.map_some, Option.bind_none, Option.map_none, if_true, if_false, ite_true, ite_false, reduceIte, Nat.reduceAdd, Nat.reduceSub, Nat.reduceLeDiff, Bool.false_eq_true, Nat.reduceEqDiff, Nat.le_refl, LIM, Bool.not_true, Bool.not_false, decide_true, decide_false, decide_eq_true_eq, Int.reduceEq, Int.reduceLT, Int.reduceLE, Int.reduceAdd, Int.reduceSub, Int.reduceNe, Int.reduceNeg, Int.cast_ofNat_Int, ne_eq, not_true_eq_false, not_false_eq_true]); exact goes_eval u v ((b.length : Int), x) p⟩]
          (simp only [x_seq, x_nx, x_rt, x_lnx, x_lct, x_lbk, x_lrt, x_bk, x_ct, x_nil, x_ret, x_set, x_asg, x_new, x_frz, x_if, x_drop, x_for, x_gN, x_gT, x_gsN, x_gsC, x_var, x_vvar, x_c, x_bin, x_un, x_of, x_tru, x_tand, x_tor, x_tnot, x_tT, x_and, x_or, x_not, x_eif, x_aN, x_aC, x_tup, x_lst, x_llst, x_call, x_eL, x_lseq, x_rng1, x_comp, x_comp2, x_app, x_ext, x_frzE, x_f1, x_f2, x_fn, x_start, x_rrt, x_rnx, all_D, any_D, x_bN, x_bC, x_asB, x_asI, x_truB, x_truI, x_seqL, x_seqT, x_lenL, x_lenT, x_tupL, x_tupT, x_int, x_wN, x_wC, x_ixT, x_ixL, x_isi, x_is_int_bool, x_is_int_int, x_is_int_str, x_is_int_tuple, x_is_int_list, x_is_int_dict, x_is_tup_bool, x_is_tup_int, x_is_tup_str, x_is_tup_tuple, x_is_tup_list, x_is_tup_dict, x_is_lst_bool, x_is_lst_int, x_is_lst_str, x_is_lst_tuple, x_is_lst_list, x_is_lst_dict, x_is_bl_bool, x_is_bl_int, x_is_bl_str, x_is_bl_tuple, x_is_bl_list, x_is_bl_dict, x_is_non_bool, x_is_non_int, x_is_non_str, x_is_non_tuple, x_is_non_list, x_is_non_dict, x_is_str_bool, x_is_str_int, x_is_str_str, x_is_str_tuple, x_is_str_list, x_is_str_dict, x_ite, x_itm, x_at0, x_at1, x_at2, x_addI, x_subI, x_pow18, x_mod, x_fdiv, x_sq, x_mul, x_mul', x_addT, x_addL, x_gt, x_ge, x_le, x_lt, eqD_int, neD_int, eqD_bool, neD_bool, getS, setS, List.map_cons, List.map_nil, List.length_cons, List.length_nil, List.cons_append, List.nil_append, List.replicate, Option.bind_some, Option.map_some, Option.bind_none, Option.map_none, if_true, if_false, ite_true, ite_false, reduceIte, Nat.reduceAdd, Nat.reduceSub, Nat.reduceLeDiff, Bool.false_eq_true, Nat.reduceEqDiff, Nat.le_refl, LIM, Bool.not_true, Bool.not_false, decide_true, decide_false, decide_eq_true_eq, Int.reduceEq, Int.reduceLT, Int.reduceLE, Int.reduceAdd, Int.reduceSub, Int.reduceNe, Int.reduceNeg, Int.cast_ofNat_Int, ne_eq, not_true_eq_false, not_false_eq_true])
          have ih := like_eval u v hv hb hu hvn r k (b ++ [x]) (by rw [List.length_append]; simp; omega) (by omega)
          unfold encI at ih
          rw [List.map_append, List.map_cons, List.map_nil] at ih
          rw [ih]
          (simp only [x_seq, x_nx, x_rt, x_lnx, x_lct, x_lbk, x_lrt, x_bk, x_ct, x_nil, x_ret, x_set, x_asg, x_new, x_frz, x_if, x_drop, x_for, x_gN, x_gT, x_gsN, x_gsC, x_var, x_vvar, x_c, x_bin, x_un, x_of, x_tru, x_tand, x_tor, x_tnot, x_tT, x_and, x_or, x_not, x_eif, x_aN, x_aC, x_tup, x_lst, x_llst, x_call, x_eL, x_lseq, x_rng1, x_comp, x_comp2, x_app, x_ext, x_frzE, x_f1, x_f2, x_fn, x_start, x_rrt, x_rnx, all_D, any_D, x_bN, x_bC, x_asB, x_asI, x_truB, x_truI, x_seqL, x_seqT, x_lenL, x_lenT, x_tupL, x_tupT, x_int, x_wN, x_wC, x_ixT, x_ixL, x_isi, x_is_int_bool, x_is_int_int, x_is_int_str, x_is_int_tuple, x_is_int_list, x_is_int_dict, x_is_tup_bool, x_is_tup_int, x_is_tup_str, x_is_tup_tuple, x_is_tup_list, x_is_tup_dict, x_is_lst_bool, x_is_lst_int, x_is_lst_str, x_is_lst_tuple, x_is_lst_list, x_is_lst_dict, x_is_bl_bool, x_is_bl_int, x_is_bl_str, x_is_bl_tuple, x_is_bl_list, x_is_bl_dict, x_is_non_bool, x_is_non_int, x_is_non_str, x_is_non_tuple, x_is_non_list, x_is_non_dict, x_is_str_bool, x_is_str_int, x_is_str_str, x_is_str_tuple, x_is_str_list, x_is_str_dict, x_ite, x_itm, x_at0, x_at1, x_at2, x_addI, x_subI, x_pow18, x_mod, x_fdiv, x_sq, x_mul, x_mul', x_addT, x_addL, x_gt, x_ge, x_le, x_lt, eqD_int, neD_int, eqD_bool, neD_bool, getS, setS, List.map_cons, List.map_nil, List.length_cons, List.length_nil, List.cons_append, List.nil_append, List.replicate, Option.bind_some, Option.map_some, Option.bind_none, Option.map_none, if_true, if_false, ite_true, ite_false, reduceIte, Nat.reduceAdd, Nat.reduceSub, Nat.reduceLeDiff, Bool.false_eq_true, Nat.reduceEqDiff, Nat.le_refl, LIM, Bool.not_true, Bool.not_false, decide_true, decide_false, decide_eq_true_eq, Int.reduceEq, Int.reduceLT, Int.reduceLE, Int.reduceAdd, Int.reduceSub, Int.reduceNe, Int.reduceNeg, Int.cast_ofNat_Int, ne_eq, not_true_eq_false, not_false_eq_true])
          rw [List.flatMap_append, List.flatMap_cons, List.flatMap_nil, List.append_nil, List.map_append]
          by_cases hg : good u v b x = true
          · have hg' : ((prs b x).all fun p => F u v ((b.length : Int), x) p) = true := hg
            have h1 := dfs_le u v r (b ++ [x])
            have h2 := flat_le (fun x => if good u v b x = true then dfs u v r (b ++ [x]) else []) (v.n ^ r) d fun y _ => by
              show (if good u v b y = true then dfs u v r (b ++ [y]) else []).length ≤ _
              split
              · exact dfs_le u v r (b ++ [y])
              · exact Nat.zero_le _
            have h3 : d.length + 1 ≤ v.n := by
              have := congrArg List.length hd
              rw [len_rng, List.length_append, List.length_cons] at this
              omega
            have h4 : (d.length + 1) * v.n ^ r ≤ v.n * v.n ^ r := Nat.mul_le_mul_right _ h3
            rw [Nat.mul_comm v.n, ← Nat.pow_succ, Nat.succ_mul, Nat.succ_eq_add_one] at h4
            rw [if_pos hg, if_pos hg', if_pos (by rw [List.length_map]; omega), if_pos (by rw [List.length_map, List.length_map]; omega)]
            exact ⟨_, rfl, _, _, _, _, rfl⟩
          · have hg' : ¬ ((prs b x).all fun p => F u v ((b.length : Int), x) p) = true := hg
            rw [if_neg hg, if_neg hg', List.map_nil, List.append_nil]
            exact ⟨_, rfl, _, _, _, _, rfl⟩)
      obtain ⟨ρ', e, s5, s6, s7, s8, rfl⟩ := L
      refine (bind2_of e).trans ?_
      (simp only [x_seq, x_nx, x_rt, x_lnx, x_lct, x_lbk, x_lrt, x_bk, x_ct, x_nil, x_ret, x_set, x_asg, x_new, x_frz, x_if, x_drop, x_for, x_gN, x_gT, x_gsN, x_gsC, x_var, x_vvar, x_c, x_bin, x_un, x_of, x_tru, x_tand, x_tor, x_tnot, x_tT, x_and, x_or, x_not, x_eif, x_aN, x_aC, x_tup, x_lst, x_llst, x_call, x_eL, x_lseq, x_rng1, x_comp, x_comp2, x_app, x_ext, x_frzE, x_f1, x_f2, x_fn, x_start, x_rrt, x_rnx, all_D, any_D, x_bN, x_bC, x_asB, x_asI, x_truB, x_truI, x_seqL, x_seqT, x_lenL, x_lenT, x_tupL, x_tupT, x_int, x_wN, x_wC, x_ixT, x_ixL, x_isi, x_is_int_bool, x_is_int_int, x_is_int_str, x_is_int_tuple, x_is_int_list, x_is_int_dict, x_is_tup_bool, x_is_tup_int, x_is_tup_str, x_is_tup_tuple, x_is_tup_list, x_is_tup_dict, x_is_lst_bool, x_is_lst_int, x_is_lst_str, x_is_lst_tuple, x_is_lst_list, x_is_lst_dict, x_is_bl_bool, x_is_bl_int, x_is_bl_str, x_is_bl_tuple, x_is_bl_list, x_is_bl_dict, x_is_non_bool, x_is_non_int, x_is_non_str, x_is_non_tuple, x_is_non_list, x_is_non_dict, x_is_str_bool, x_is_str_int, x_is_str_str, x_is_str_tuple, x_is_str_list, x_is_str_dict, x_ite, x_itm, x_at0, x_at1, x_at2, x_addI, x_subI, x_pow18, x_mod, x_fdiv, x_sq, x_mul, x_mul', x_addT, x_addL, x_gt, x_ge, x_le, x_lt, eqD_int, neD_int, eqD_bool, neD_bool, getS, setS, List.map_cons, List.map_nil, List.length_cons, List.length_nil, List.cons_append, List.nil_append, List.replicate, Option.bind_some, Option.map_some, Option.bind_none, Option.map_none, if_true, if_false, ite_true, ite_false, reduceIte, Nat.reduceAdd, Nat.reduceSub, Nat.reduceLeDiff, Bool.false_eq_true, Nat.reduceEqDiff, Nat.le_refl, LIM, Bool.not_true, Bool.not_false, decide_true, decide_false, decide_eq_true_eq, Int.reduceEq, Int.reduceLT, Int.reduceLE, Int.reduceAdd, Int.reduceSub, Int.reduceNe, Int.reduceNeg, Int.cast_ofNat_Int, ne_eq, not_true_eq_false, not_false_eq_true])
      rfl
def stepF (u v : Wd) (row : List Int) (x : Int) : List (List Int) := if allF u v (prs row x) = true then [row ++ [x]] else []
def bfs (u v : Wd) : Nat → List (List Int)
  | 0 => [[]]
  | k + 1 => (bfs u v k).flatMap fun row => (rng v.n).flatMap (stepF u v row)
theorem stepF_le (u v : Wd) (row : List Int) (x : Int) : (stepF u v row x).length ≤ 1 := by
  unfold stepF
  split
  · exact Nat.le_refl _
  · exact Nat.zero_le _
theorem bfs_le (u v : Wd) : ∀ k : Nat, (bfs u v k).length ≤ v.n ^ k
  | 0 => Nat.le_refl _
  | k + 1 => by
    have h := flat_le (fun row => (rng v.n).flatMap (stepF u v row)) v.n (bfs u v k) fun row _ => by
      have := flat_le (stepF u v row) 1 (rng v.n) fun x _ => stepF_le u v row x
      rw [len_rng] at this
      omega
    rw [Nat.pow_succ]
    exact Nat.le_trans h (Nat.mul_le_mul_right _ (bfs_le u v k))
theorem bfs_len (u v : Wd) : ∀ (k : Nat) (row : List Int), row ∈ bfs u v k → row.length = k
  | 0, row, h => by
    obtain rfl := List.mem_singleton.mp h
    rfl
  | k + 1, row, h => by
    obtain ⟨r0, h0, h⟩ := List.mem_flatMap.mp h
    obtain ⟨x, hx, h⟩ := List.mem_flatMap.mp h
    unfold stepF at h
    split at h
    · obtain rfl := List.mem_singleton.mp h
      rw [List.length_append, bfs_len u v k r0 h0] <;> rfl
    · cases h
theorem rng_at {n : Nat} {d rest : List Int} {x : Int} (h : rng n = d ++ x :: rest) : x = (d.length : Int) := by
  have h2 : (rng n)[d.length]? = some x := by rw [h, List.getElem?_append_right (Nat.le_refl _), Nat.sub_self] <;> rfl
  unfold rng at h2
  rw [List.getElem?_map] at h2
  obtain ⟨k, e, e2⟩ := Option.map_eq_some_iff.mp h2
  rw [List.getElem?_range (by
    have := congrArg List.length h
    rw [len_rng, List.length_append, List.length_cons] at this
    omega)] at e
  cases e
  exact e2.symm
theorem ways_item (u v : Wd) (hvn : v.n ≤ 16777216) (rows : D) (row : List Int) (hk : row.length ≤ 100) (acc : List D) (s7 s8 s9 : Sl) (ha : acc.length + v.n ≤ 16777216) :
    ∃ t7 t8 t9, forD (gN 7) b__law_ways_0 ((rng v.n).map PyData.int) [.dat (encW u), .dat (encW v), .dat (.int 0), .dat rows, .dat (.int row.length), .own acc, .dat (encI row), s7, s8, s9] =
      some (.nx [.dat (encW u), .dat (encW v), .dat (.int 0), .dat rows, .dat (.int row.length), .own (acc ++ ((rng v.n).flatMap (stepF u v row)).map encI), .dat (encI row), t7, t8, t9]) := by
  obtain ⟨ρ', e, t7, t8, t9, rfl⟩ := forD_at (gg := gN 7) (S := b__law_ways_0) PyData.int
    (fun done ρ => ∃ s7 s8 s9, ρ = [.dat (encW u), .dat (encW v), .dat (.int 0), .dat rows, .dat (.int row.length), .own (acc ++ (done.flatMap (stepF u v row)).map encI), .dat (encI row), s7, s8, s9]) (rng v.n) [] _ ⟨s7, s8, s9, rfl⟩ (fun d x rest hd ρ ⟨s7, s8, s9, e⟩ => by
      subst e
      rw [List.nil_append] at hd
      refine ⟨_, rfl, ?_⟩
      have h3 : d.length + 1 ≤ v.n := by
        have := congrArg List.length hd
        rw [len_rng, List.length_append, List.length_cons] at this
        omega
      have h2 := flat_le (stepF u v row) 1 d fun x _ => stepF_le u v row x
      unfold b__law_ways_0
      (simp only [x_seq, x_nx, x_rt, x_lnx, x_lct, x_lbk, x_lrt, x_bk, x_ct, x_nil, x_ret, x_set, x_asg, x_new, x_frz, x_if, x_drop, x_for, x_gN, x_gT, x_gsN, x_gsC, x_var, x_vvar, x_c, x_bin, x_un, x_of, x_tru, x_tand, x_tor, x_tnot, x_tT, x_and, x_or, x_not, x_eif, x_aN, x_aC, x_tup, x_lst, x_llst, x_call, x_eL, x_lseq, x_rng1, x_comp, x_comp2, x_app, x_ext, x_frzE, x_f1, x_f2, x_fn, x_start, x_rrt, x_rnx, all_D, any_D, x_bN, x_bC, x_asB, x_asI, x_truB, x_truI, x_seqL, x_seqT, x_lenL, x_lenT, x_tupL, x_tupT, x_int, x_wN, x_wC, x_ixT, x_ixL, x_isi, x_is_int_bool, x_is_int_int, x_is_int_str, x_is_int_tuple, x_is_int_list, x_is_int_dict, x_is_tup_bool, x_is_tup_int, x_is_tup_str, x_is_tup_tuple, x_is_tup_list, x_is_tup_dict, x_is_lst_bool, x_is_lst_int, x_is_lst_str, x_is_lst_tuple, x_is_lst_list, x_is_lst_dict, x_is_bl_bool, x_is_bl_int, x_is_bl_str, x_is_bl_tuple, x_is_bl_list, x_is_bl_dict, x_is_non_bool, x_is_non_int, x_is_non_str, x_is_non_tuple, x_is_non_list, x_is_non_dict, x_is_str_bool, x_is_str_int, x_is_str_str, x_is_str_tuple, x_is_str_list, x_is_str_dict, x_ite, x_itm, x_at0, x_at1, x_at2, x_addI, x_subI, x_pow18, x_mod, x_fdiv, x_sq, x_mul, x_mul', x_addT, x_addL, x_gt, x_ge, x_le, x_lt, eqD_int, neD_int, eqD_bool, neD_bool, getS, setS, List.map_cons, List.map_nil, List.length_cons, List.length_nil, List.cons_append, List.nil_append, List.replicate, Option.bind_some, Option.map_some, Option.bind_none, Option.map_none, if_true, if_false, ite_true, ite_false, reduceIte, Nat.reduceAdd, Nat.reduceSub, Nat.reduceLeDiff, Bool.false_eq_true, Nat.reduceEqDiff, Nat.le_refl, LIM, Bool.not_true, Bool.not_false, decide_true, decide_false, decide_eq_true_eq, Int.reduceEq, Int.reduceLT, Int.reduceLE, Int.reduceAdd, Int.reduceSub, Int.reduceNe, Int.reduceNeg, Int.cast_ofNat_Int, ne_eq, not_true_eq_false, not_false_eq_true])
      rw [rngD_nat (show row.length ≤ 16777216 by omega)]
      (simp only [x_seq, x_nx, x_rt, x_lnx, x_lct, x_lbk, x_lrt, x_bk, x_ct, x_nil, x_ret, x_set, x_asg, x_new, x_frz, x_if, x_drop, x_for, x_gN, x_gT, x_gsN, x_gsC, x_var, x_vvar, x_c, x_bin, x_un, x_of, x_tru, x_tand, x_tor, x_tnot, x_tT, x_and, x_or, x_not, x_eif, x_aN, x_aC, x_tup, x_lst, x_llst, x_call, x_eL, x_lseq, x_rng1, x_comp, x_comp2, x_app, x_ext, x_frzE, x_f1, x_f2, x_fn, x_start, x_rrt, x_rnx, all_D, any_D, x_bN, x_bC, x_asB, x_asI, x_truB, x_truI, x_seqL, x_seqT, x_lenL, x_lenT, x_tupL, x_tupT, x_int, x_wN, x_wC, x_ixT, x_ixL, x_isi, x_is_int_bool, x_is_int_int, x_is_int_str, x_is_int_tuple, x_is_int_list, x_is_int_dict, x_is_tup_bool, x_is_tup_int, x_is_tup_str, x_is_tup_tuple, x_is_tup_list, x_is_tup_dict, x_is_lst_bool, x_is_lst_int, x_is_lst_str, x_is_lst_tuple, x_is_lst_list, x_is_lst_dict, x_is_bl_bool, x_is_bl_int, x_is_bl_str, x_is_bl_tuple, x_is_bl_list, x_is_bl_dict, x_is_non_bool, x_is_non_int, x_is_non_str, x_is_non_tuple, x_is_non_list, x_is_non_dict, x_is_str_bool, x_is_str_int, x_is_str_str, x_is_str_tuple, x_is_str_list, x_is_str_dict, x_ite, x_itm, x_at0, x_at1, x_at2, x_addI, x_subI, x_pow18, x_mod, x_fdiv, x_sq, x_mul, x_mul', x_addT, x_addL, x_gt, x_ge, x_le, x_lt, eqD_int, neD_int, eqD_bool, neD_bool, getS, setS, List.map_cons, List.map_nil, List.length_cons, List.length_nil, List.cons_append, List.nil_append, List.replicate, Option.bind_some, Option.map_some, Option.bind_none, Option.map_none, if_true, if_false, ite_true, ite_false, reduceIte, Nat.reduceAdd, Nat.reduceSub, Nat.reduceLeDiff, Bool.false_eq_true, Nat.reduceEqDiff, Nat.le_refl, LIM, Bool.not_true, Bool.not_false, decide_true, decide_false, decide_eq_true_eq, Int.reduceEq, Int.reduceLT, Int.reduceLE, Int.reduceAdd, Int.reduceSub, Int.reduceNe, Int.reduceNeg, Int.cast_ofNat_Int, ne_eq, not_true_eq_false, not_false_eq_true])
      unfold encI rng
      rw [List.map_map, compD_all _ (fun k : Nat => PyData.tuple [.int k, .int (row.getD k 0)]) (List.range row.length) fun k' hk' => ⟨_, rfl, by (simp only [x_seq, x_nx, x_rt, x_lnx, x_lct, x_lbk, x_lrt, x_bk, x_ct, x_nil, x_ret, x_set, x_asg, x_new, x_frz, x_if, x_drop, x_for, x_gN, x_gT, x_gsN, x_gsC, x_var, x_vvar, x_c, x_bin, x_un, x_of, x_tru, x_tand, x_tor, x_tnot, x_tT, x_and, x_or, x_not, x_eif, x_aN, x_aC, x_tup, x_lst, x_llst, x_call, x_eL, x_lseq, x_rng1, x_comp, x_comp2, x_app, x_ext, x_frzE, x_f1, x_f2, x_fn, x_start, x_rrt, x_rnx, all_D, any_D, x_bN, x_bC, x_asB, x_asI, x_truB, x_truI, x_seqL, x_seqT, x_lenL, x_lenT, x_tupL, x_tupT, x_int, x_wN, x_wC, x_ixT, x_ixL, x_isi, x_is_int_bool, x_is_int_int, x_is_int_str, x_is_int_tuple, x_is_int_list, x_is_int_dict, x_is_tup_bool, x_is_tup_int, x_is_tup_str, x_is_tup_tuple, x_is_tup_list, x_is_tup_dict, x_is_lst_bool, x_is_lst_int, x_is_lst_str, x_is_lst_tuple, x_is_lst_list, x_is_lst_dict, x_is_bl_bool, x_is_bl_int, x_is_bl_str, x_is_bl_tuple, x_is_bl_list, x_is_bl_dict, x_is_non_bool, x_is_non_int, x_is_non_str, x_is_non_tuple, x_is_non_list, x_is_non_dict, x_is_str_bool, x_is_str_int, x_is_str_str, x_is_str_tuple, x_is_str_list, x_is_str_dict, x_ite, x_itm, x_at0, x_at1, x_at2, x_addI, x_subI, x_pow18, x_mod, x_fdiv, x_sq, x_mul, x_mul', x_addT, x_addL, x_gt, x_ge, x_le, x_lt, eqD_int, neD_int, eqD_bool, neD_bool, getS, setS, List.map_cons, List.map_nil, List.length_cons, List.length_nil, List.cons_append, List.nil_append, List.replicate, Option.bind_some, Option.map_some, Option.bind_none, Option.map_none, if_true, if_false, ite_true, ite_false, reduceIte, Nat.reduceAdd, Nat.reduceSub, Nat.reduceLeDiff, Bool.false_eq_true, Nat.reduceEqDiff, Nat.le_refl, LIM, Bool.not_true, Bool.not_false, decide_true, decide_false, decide_eq_true_eq, Int.reduceEq, Int.reduceLT, Int.reduceLE, Int.reduceAdd, Int.reduceSub, Int.reduceNe, Int.reduceNeg, Int.cast_ofNat_Int, ne_eq, not_true_eq_false, not_false_eq_true]); rw [show ((PyData.int ∘ fun k : Nat => (k : Int)) k') = PyData.int (k' : Int) from rfl]; (simp only [x_seq, x_nx, x_rt, x_lnx, x_lct, x_lbk, x_lrt, x_bk, x_ct, x_nil, x_ret, x_set, x_asg, x_new, x_frz, x_if, x_drop, x_for, x_gN, x_gT, x_gsN, x_gsC, x_var, x_vvar, x_c, x_bin, x_un, x_of, x_tru, x_tand, x_tor, x_tnot, x_tT, x_and, x_or, x_not, x_eif, x_aN, x_aC, x_tup, x_lst, x_llst, x_call, x_eL, x_lseq, x_rng1, x_comp, x_comp2, x_app, x_ext, x_frzE, x_f1, x_f2, x_fn, x_start, x_rrt, x_rnx, all_D, any_D, x_bN, x_bC, x_asB, x_asI, x_truB, x_truI, x_seqL, x_seqT, x_lenL, x_lenT, x_tupL, x_tupT, x_int, x_wN, x_wC, x_ixT, x_ixL, x_isi, x_is_int_bool, x_is_int_int, x_is_int_str, x_is_int_tuple, x_is_int_list, x_is_int_dict, x_is_tup_bool, x_is_tup_int, x_is_tup_str, x_is_tup_tuple, x_is_tup_list, x_is_tup_dict, x_is_lst_bool, x_is_lst_int, x_is_lst_str, x_is_lst_tuple, x_is_lst_list, x_is_lst_dict, x_is_bl_bool, x_is_bl_int, x_is_bl_str, x_is_bl_tuple, x_is_bl_list, x_is_bl_dict, x_is_non_bool, x_is_non_int, x_is_non_str, x_is_non_tuple, x_is_non_list, x_is_non_dict, x_is_str_bool, x_is_str_int, x_is_str_str, x_is_str_tuple, x_is_str_list, x_is_str_dict, x_ite, x_itm, x_at0, x_at1, x_at2, x_addI, x_subI, x_pow18, x_mod, x_fdiv, x_sq, x_mul, x_mul', x_addT, x_addL, x_gt, x_ge, x_le, x_lt, eqD_int, neD_int, eqD_bool, neD_bool, getS, setS, List.map_cons, List.map_nil, List.length_cons, List.length_nil, List.cons_append, List.nil_append, List.replicate, Option.bind_some, Option.map_some, Option.bind_none, Option.map_none, if_true, if_false, ite_true, ite_false, reduceIte, Nat.reduceAdd, Nat.reduceSub, Nat.reduceLeDiff, Bool.false_eq_true, Nat.reduceEqDiff, Nat.le_refl, LIM, Bool.not_true, Bool.not_false, decide_true, decide_false, decide_eq_true_eq, Int.reduceEq, Int.reduceLT, Int.reduceLE, Int.reduceAdd, Int.reduceSub, Int.reduceNe, Int.reduceNeg, Int.cast_ofNat_Int, ne_eq, not_true_eq_false, not_false_eq_true]); rw [encI_at row (List.mem_range.mp hk')]; (simp only [x_seq, x_nx, x_rt, x_lnx, x_lct, x_lbk, x_lrt, x_bk, x_ct, x_nil, x_ret, x_set, x_asg, x_new, x_frz, x_if, x_drop, x_for, x_gN, x_gT, x_gsN, x_gsC, x_var, x_vvar, x_c, x_bin, x_un, x_of, x_tru, x_tand, x_tor, x_tnot, x_tT, x_and, x_or, x_not, x_eif, x_aN, x_aC, x_tup, x_lst, x_llst, x_call, x_eL, x_lseq, x_rng1, x_comp, x_comp2, x_app, x_ext, x_frzE, x_f1, x_f2, x_fn, x_start, x_rrt, x_rnx, all_D, any_D, x_bN, x_bC, x_asB, x_asI, x_truB, x_truI, x_seqL, x_seqT, x_lenL, x_lenT, x_tupL, x_tupT, x_int, x_wN, x_wC, x_ixT, x_ixL, x_isi, x_is_int_bool, x_is_int_int, x_is_int_str, x_is_int_tuple, x_is_int_list, x_is_int_dict, x_is_tup_bool, x_is_tup_int, x_is_tup_str, x_is_tup_tuple, x_is_tup_list, x_is_tup_dict, x_is_lst_bool, x_is_lst_int, x_is_lst_str, x_is_lst_tuple, x_is_lst_list, x_is_lst_dict, x_is_bl_bool, x_is_bl_int, x_is_bl_str, x_is_bl_tuple, x_is_bl_list, x_is_bl_dict, x_is_non_bool, x_is_non_int, x_is_non_str, x_is_non_tuple, x_is_non_list, x_is_non_dict, x_is_str_bool, x_is_str_int, x_is_str_str, x_is_str_tuple, x_is_str_list, x_is_str_dict, x_ite, x_itm, x_at0, x_at1, x_at2, x_addI, x_subI, x_pow18, x_mod, x_fdiv, x_sq, x_mul, x_mul', x_addT, x_addL, x_gt, x_ge, x_le, x_lt, eqD_int, neD_int, eqD_bool, neD_bool, getS, setS, List.map_cons, List.map_nil, List.length_cons, List.length_nil, List.cons_append, List.nil_append, List.replicate, Option.bind_some, Option.map_some, Option.bind_none, Option.map_none, if_true, if_false, ite_true, ite_false, reduceIte, Nat.reduceAdd, Nat.reduceSub, Nat.reduceLeDiff, Bool.false_eq_true, Nat.reduceEqDiff, Nat.le_refl, LIM, Bool.not_true, Bool.not_false, decide_true, decide_false, decide_eq_true_eq, Int.reduceEq, Int.reduceLT, Int.reduceLE, Int.reduceAdd, Int.reduceSub, Int.reduceNe, Int.reduceNeg, Int.cast_ofNat_Int, ne_eq, not_true_eq_false, not_false_eq_true])⟩]
      (simp only [x_seq, x_nx, x_rt, x_lnx, x_lct, x_lbk, x_lrt, x_bk, x_ct, x_nil, x_ret, x_set, x_asg, x_new, x_frz, x_if, x_drop, x_for, x_gN, x_gT, x_gsN, x_gsC, x_var, x_vvar, x_c, x_bin, x_un, x_of, x_tru, x_tand, x_tor, x_tnot, x_tT, x_and, x_or, x_not, x_eif, x_aN, x_aC, x_tup, x_lst, x_llst, x_call, x_eL, x_lseq, x_rng1, x_comp, x_comp2, x_app, x_ext, x_frzE, x_f1, x_f2, x_fn, x_start, x_rrt, x_rnx, all_D, any_D, x_bN, x_bC, x_asB, x_asI, x_truB, x_truI, x_seqL, x_seqT, x_lenL, x_lenT, x_tupL, x_tupT, x_int, x_wN, x_wC, x_ixT, x_ixL, x_isi, x_is_int_bool, x_is_int_int, x_is_int_str, x_is_int_tuple, x_is_int_list, x_is_int_dict, x_is_tup_bool, x_is_tup_int, x_is_tup_str, x_is_tup_tuple, x_is_tup_list, x_is_tup_dict, x_is_lst_bool, x_is_lst_int, x_is_lst_str, x_is_lst_tuple, x_is_lst_list, x_is_lst_dict, x_is_bl_bool, x_is_bl_int, x_is_bl_str, x_is_bl_tuple, x_is_bl_list, x_is_bl_dict, x_is_non_bool, x_is_non_int, x_is_non_str, x_is_non_tuple, x_is_non_list, x_is_non_dict, x_is_str_bool, x_is_str_int, x_is_str_str, x_is_str_tuple, x_is_str_list, x_is_str_dict, x_ite, x_itm, x_at0, x_at1, x_at2, x_addI, x_subI, x_pow18, x_mod, x_fdiv, x_sq, x_mul, x_mul', x_addT, x_addL, x_gt, x_ge, x_le, x_lt, eqD_int, neD_int, eqD_bool, neD_bool, getS, setS, List.map_cons, List.map_nil, List.length_cons, List.length_nil, List.cons_append, List.nil_append, List.replicate, Option.bind_some, Option.map_some, Option.bind_none, Option.map_none, if_true, if_false, ite_true, ite_false, reduceIte, Nat.reduceAdd, Nat.reduceSub, Nat.reduceLeDiff, Bool.false_eq_true, Nat.reduceEqDiff, Nat.le_refl, LIM, Bool.not_true, Bool.not_false, decide_true, decide_false, decide_eq_true_eq, Int.reduceEq, Int.reduceLT, Int.reduceLE, Int.reduceAdd, Int.reduceSub, Int.reduceNe, Int.reduceNeg, Int.cast_ofNat_Int, ne_eq, not_true_eq_false, not_false_eq_true])
      rw [if_pos (by rw [List.length_map, List.length_range]; omega)]
      rw [← prs_eval row x, show m__law_goes [encW u, encW v, PyData.tuple ((prs row x).map encP), .int 0] = _ from lgoes_eval u v (prs row x)]
      (simp only [x_seq, x_nx, x_rt, x_lnx, x_lct, x_lbk, x_lrt, x_bk, x_ct, x_nil, x_ret, x_set, x_asg, x_new, x_frz, x_if, x_drop, x_for, x_gN, x_gT, x_gsN, x_gsC, x_var, x_vvar, x_c, x_bin, x_un, x_of, x_tru, x_tand, x_tor, x_tnot, x_tT, x_and, x_or, x_not, x_eif, x_aN, x_aC, x_tup, x_lst, x_llst, x_call, x_eL, x_lseq, x_rng1, x_comp, x_comp2, x_app, x_ext, x_frzE, x_f1, x_f2, x_fn, x_start, x_rrt, x_rnx, all_D, any_D, x_bN, x_bC, x_asB, x_asI, x_truB, x_truI, x_seqL, x_seqT, x_lenL, x_lenT, x_tupL, x_tupT, x_int, x_wN, x_wC, x_ixT, x_ixL, x_isi, x_is_int_bool, x_is_int_int, x_is_int_str, x_is_int_tuple, x_is_int_list, x_is_int_dict, x_is_tup_bool, x_is_tup_int, x_is_tup_str, x_is_tup_tuple, x_is_tup_list, x_is_tup_dict, x_is_lst_bool, x_is_lst_int, x_is_lst_str, x_is_lst_tuple, x_is_lst_list, x_is_lst_dict, x_is_bl_bool, x_is_bl_int, x_is_bl_str, x_is_bl_tuple, x_is_bl_list, x_is_bl_dict, x_is_non_bool, x_is_non_int, x_is_non_str, x_is_non_tuple, x_is_non_list, x_is_non_dict, x_is_str_bool, x_is_str_int, x_is_str_str, x_is_str_tuple, x_is_str_list, x_is_str_dict, x_ite, x_itm, x_at0, x_at1, x_at2, x_addI, x_subI, x_pow18, x_mod, x_fdiv, x_sq, x_mul, x_mul', x_addT, x_addL, x_gt, x_ge, x_le, x_lt, eqD_int, neD_int, eqD_bool, neD_bool, getS, setS, List.map_cons, List.map_nil, List.length_cons, List.length_nil, List.cons_append, List.nil_append, List.replicate, Option.bind_some, Option.map_some, Option.bind_none, Option.map_none, if_true, if_false, ite_true, ite_false, reduceIte, Nat.reduceAdd, Nat.reduceSub, Nat.reduceLeDiff, Bool.false_eq_true, Nat.reduceEqDiff, Nat.le_refl, LIM, Bool.not_true, Bool.not_false, decide_true, decide_false, decide_eq_true_eq, Int.reduceEq, Int.reduceLT, Int.reduceLE, Int.reduceAdd, Int.reduceSub, Int.reduceNe, Int.reduceNeg, Int.cast_ofNat_Int, ne_eq, not_true_eq_false, not_false_eq_true])
      rw [List.flatMap_append, List.flatMap_cons, List.flatMap_nil, List.append_nil, List.map_append]
      unfold stepF
      by_cases hg : allF u v (prs row x) = true
      · rw [if_pos hg, if_pos hg, if_pos (by rw [List.length_map]; omega)]
        unfold stepF at h2
        rw [if_pos (by rw [List.length_append, List.length_map]; omega), List.append_assoc]
        rw [show (List.map (fun l => PyData.tuple (List.map PyData.int l)) [row ++ [x]]) = [PyData.tuple (row.map PyData.int ++ [PyData.int x])] by rw [List.map_cons, List.map_append]; rfl]
        exact ⟨_, rfl, _, _, _, rfl⟩
      · rw [if_neg hg, if_neg hg, List.map_nil, List.append_nil]
        exact ⟨_, rfl, _, _, _, rfl⟩)
  refine ⟨t7, t8, t9, ?_⟩
  refine Eq.trans ?_ e
  rw [List.flatMap_nil, List.map_nil, List.append_nil]
theorem ways_row (u v : Wd) (hvn : v.n ≤ 16777216) (hv : 1 ≤ v.n) (rows : D) (k : Nat) (hk : k ≤ 100) (hb : v.n ^ (k + 1) ≤ 16777216) (s6 s7 s8 s9 : Sl) :
    ∃ t6 t7 t8 t9, forD (gN 6) b__law_ways_1 ((bfs u v k).map encI) [.dat (encW u), .dat (encW v), .dat (.int 0), .dat rows, .dat (.int k), .own [], s6, s7, s8, s9] =
      some (.nx [.dat (encW u), .dat (encW v), .dat (.int 0), .dat rows, .dat (.int k), .own ((bfs u v (k + 1)).map encI), t6, t7, t8, t9]) := by
  obtain ⟨ρ', e, t6, t7, t8, t9, rfl⟩ := forD_at (gg := gN 6) (S := b__law_ways_1) encI
    (fun done ρ => ∃ s6 s7 s8 s9, ρ = [.dat (encW u), .dat (encW v), .dat (.int 0), .dat rows, .dat (.int k), .own ((done.flatMap fun row => (rng v.n).flatMap (stepF u v row)).map encI), s6, s7, s8, s9]) (bfs u v k) [] _ ⟨s6, s7, s8, s9, rfl⟩ (fun d row rest hd ρ ⟨s6, s7, s8, s9, e⟩ => by
      subst e
      rw [List.nil_append] at hd
      refine ⟨_, rfl, ?_⟩
      have hl : row.length = k := bfs_len u v k row (by rw [hd]; exact List.mem_append_right _ List.mem_cons_self)
      have h3 : d.length + 1 ≤ v.n ^ k := by
        have := congrArg List.length hd
        rw [List.length_append, List.length_cons] at this
        have := bfs_le u v k
        omega
      have h2 := flat_le (fun row => (rng v.n).flatMap (stepF u v row)) v.n d fun row _ => by
        have := flat_le (stepF u v row) 1 (rng v.n) fun x _ => stepF_le u v row x
        rw [len_rng] at this
        omega
      have h4 : (d.length + 1) * v.n ≤ v.n ^ k * v.n := Nat.mul_le_mul_right _ h3
      rw [← Nat.pow_succ, Nat.succ_mul, Nat.succ_eq_add_one] at h4
      unfold b__law_ways_1
      (simp only [x_seq, x_nx, x_rt, x_lnx, x_lct, x_lbk, x_lrt, x_bk, x_ct, x_nil, x_ret, x_set, x_asg, x_new, x_frz, x_if, x_drop, x_for, x_gN, x_gT, x_gsN, x_gsC, x_var, x_vvar, x_c, x_bin, x_un, x_of, x_tru, x_tand, x_tor, x_tnot, x_tT, x_and, x_or, x_not, x_eif, x_aN, x_aC, x_tup, x_lst, x_llst, x_call, x_eL, x_lseq, x_rng1, x_comp, x_comp2, x_app, x_ext, x_frzE, x_f1, x_f2, x_fn, x_start, x_rrt, x_rnx, all_D, any_D, x_bN, x_bC, x_asB, x_asI, x_truB, x_truI, x_seqL, x_seqT, x_lenL, x_lenT, x_tupL, x_tupT, x_int, x_wN, x_wC, x_ixT, x_ixL, x_isi, x_is_int_bool, x_is_int_int, x_is_int_str, x_is_int_tuple, x_is_int_list, x_is_int_dict, x_is_tup_bool, x_is_tup_int, x_is_tup_str, x_is_tup_tuple, x_is_tup_list, x_is_tup_dict, x_is_lst_bool, x_is_lst_int, x_is_lst_str, x_is_lst_tuple, x_is_lst_list, x_is_lst_dict, x_is_bl_bool, x_is_bl_int, x_is_bl_str, x_is_bl_tuple, x_is_bl_list, x_is_bl_dict, x_is_non_bool, x_is_non_int, x_is_non_str, x_is_non_tuple, x_is_non_list, x_is_non_dict, x_is_str_bool, x_is_str_int, x_is_str_str, x_is_str_tuple, x_is_str_list, x_is_str_dict, x_ite, x_itm, x_at0, x_at1, x_at2, x_addI, x_subI, x_pow18, x_mod, x_fdiv, x_sq, x_mul, x_mul', x_addT, x_addL, x_gt, x_ge, x_le, x_lt, eqD_int, neD_int, eqD_bool, neD_bool, getS, setS, List.map_cons, List.map_nil, List.length_cons, List.length_nil, List.cons_append, List.nil_append, List.replicate, Option.bind_some, Option.map_some, Option.bind_none, Option.map_none, if_true, if_false, ite_true, ite_false, reduceIte, Nat.reduceAdd, Nat.reduceSub, Nat.reduceLeDiff, Bool.false_eq_true, Nat.reduceEqDiff, Nat.le_refl, LIM, Bool.not_true, Bool.not_false, decide_true, decide_false, decide_eq_true_eq, Int.reduceEq, Int.reduceLT, Int.reduceLE, Int.reduceAdd, Int.reduceSub, Int.reduceNe, Int.reduceNeg, Int.cast_ofNat_Int, ne_eq, not_true_eq_false, not_false_eq_true])
      rw [show ixD (encW v) (.int 0) = some (.int v.n) by unfold encW; (simp only [x_seq, x_nx, x_rt, x_lnx, x_lct, x_lbk, x_lrt, x_bk, x_ct, x_nil, x_ret, x_set, x_asg, x_new, x_frz, x_if, x_drop, x_for, x_gN, x_gT, x_gsN, x_gsC, x_var, x_vvar, x_c, x_bin, x_un, x_of, x_tru, x_tand, x_tor, x_tnot, x_tT, x_and, x_or, x_not, x_eif, x_aN, x_aC, x_tup, x_lst, x_llst, x_call, x_eL, x_lseq, x_rng1, x_comp, x_comp2, x_app, x_ext, x_frzE, x_f1, x_f2, x_fn, x_start, x_rrt, x_rnx, all_D, any_D, x_bN, x_bC, x_asB, x_asI, x_truB, x_truI, x_seqL, x_seqT, x_lenL, x_lenT, x_tupL, x_tupT, x_int, x_wN, x_wC, x_ixT, x_ixL, x_isi, x_is_int_bool, x_is_int_int, x_is_int_str, x_is_int_tuple, x_is_int_list, x_is_int_dict, x_is_tup_bool, x_is_tup_int, x_is_tup_str, x_is_tup_tuple, x_is_tup_list, x_is_tup_dict, x_is_lst_bool, x_is_lst_int, x_is_lst_str, x_is_lst_tuple, x_is_lst_list, x_is_lst_dict, x_is_bl_bool, x_is_bl_int, x_is_bl_str, x_is_bl_tuple, x_is_bl_list, x_is_bl_dict, x_is_non_bool, x_is_non_int, x_is_non_str, x_is_non_tuple, x_is_non_list, x_is_non_dict, x_is_str_bool, x_is_str_int, x_is_str_str, x_is_str_tuple, x_is_str_list, x_is_str_dict, x_ite, x_itm, x_at0, x_at1, x_at2, x_addI, x_subI, x_pow18, x_mod, x_fdiv, x_sq, x_mul, x_mul', x_addT, x_addL, x_gt, x_ge, x_le, x_lt, eqD_int, neD_int, eqD_bool, neD_bool, getS, setS, List.map_cons, List.map_nil, List.length_cons, List.length_nil, List.cons_append, List.nil_append, List.replicate, Option.bind_some, Option.map_some, Option.bind_none, Option.map_none, if_true, if_false, ite_true, ite_false, reduceIte, Nat.reduceAdd, Nat.reduceSub, Nat.reduceLeDiff, Bool.false_eq_true, Nat.reduceEqDiff, Nat.le_refl, LIM, Bool.not_true, Bool.not_false, decide_true, decide_false, decide_eq_true_eq, Int.reduceEq, Int.reduceLT, Int.reduceLE, Int.reduceAdd, Int.reduceSub, Int.reduceNe, Int.reduceNeg, Int.cast_ofNat_Int, ne_eq, not_true_eq_false, not_false_eq_true])]
      (simp only [x_seq, x_nx, x_rt, x_lnx, x_lct, x_lbk, x_lrt, x_bk, x_ct, x_nil, x_ret, x_set, x_asg, x_new, x_frz, x_if, x_drop, x_for, x_gN, x_gT, x_gsN, x_gsC, x_var, x_vvar, x_c, x_bin, x_un, x_of, x_tru, x_tand, x_tor, x_tnot, x_tT, x_and, x_or, x_not, x_eif, x_aN, x_aC, x_tup, x_lst, x_llst, x_call, x_eL, x_lseq, x_rng1, x_comp, x_comp2, x_app, x_ext, x_frzE, x_f1, x_f2, x_fn, x_start, x_rrt, x_rnx, all_D, any_D, x_bN, x_bC, x_asB, x_asI, x_truB, x_truI, x_seqL, x_seqT, x_lenL, x_lenT, x_tupL, x_tupT, x_int, x_wN, x_wC, x_ixT, x_ixL, x_isi, x_is_int_bool, x_is_int_int, x_is_int_str, x_is_int_tuple, x_is_int_list, x_is_int_dict, x_is_tup_bool, x_is_tup_int, x_is_tup_str, x_is_tup_tuple, x_is_tup_list, x_is_tup_dict, x_is_lst_bool, x_is_lst_int, x_is_lst_str, x_is_lst_tuple, x_is_lst_list, x_is_lst_dict, x_is_bl_bool, x_is_bl_int, x_is_bl_str, x_is_bl_tuple, x_is_bl_list, x_is_bl_dict, x_is_non_bool, x_is_non_int, x_is_non_str, x_is_non_tuple, x_is_non_list, x_is_non_dict, x_is_str_bool, x_is_str_int, x_is_str_str, x_is_str_tuple, x_is_str_list, x_is_str_dict, x_ite, x_itm, x_at0, x_at1, x_at2, x_addI, x_subI, x_pow18, x_mod, x_fdiv, x_sq, x_mul, x_mul', x_addT, x_addL, x_gt, x_ge, x_le, x_lt, eqD_int, neD_int, eqD_bool, neD_bool, getS, setS, List.map_cons, List.map_nil, List.length_cons, List.length_nil, List.cons_append, List.nil_append, List.replicate, Option.bind_some, Option.map_some, Option.bind_none, Option.map_none, if_true, if_false, ite_true, ite_false, reduceIte, Nat.reduceAdd, Nat.reduceSub, Nat.reduceLeDiff, Bool.false_eq_true, Nat.reduceEqDiff, Nat.le_refl, LIM, Bool.not_true, Bool.not_false, decide_true, decide_false, decide_eq_true_eq, Int.reduceEq, Int.reduceLT, Int.reduceLE, Int.reduceAdd, Int.reduceSub, Int.reduceNe, Int.reduceNeg, Int.cast_ofNat_Int, ne_eq, not_true_eq_false, not_false_eq_true])
      rw [rngD_nat hvn]
      (simp only [x_seq, x_nx, x_rt, x_lnx, x_lct, x_lbk, x_lrt, x_bk, x_ct, x_nil, x_ret, x_set, x_asg, x_new, x_frz, x_if, x_drop, x_for, x_gN, x_gT, x_gsN, x_gsC, x_var, x_vvar, x_c, x_bin, x_un, x_of, x_tru, x_tand, x_tor, x_tnot, x_tT, x_and, x_or, x_not, x_eif, x_aN, x_aC, x_tup, x_lst, x_llst, x_call, x_eL, x_lseq, x_rng1, x_comp, x_comp2, x_app, x_ext, x_frzE, x_f1, x_f2, x_fn, x_start, x_rrt, x_rnx, all_D, any_D, x_bN, x_bC, x_asB, x_asI, x_truB, x_truI, x_seqL, x_seqT, x_lenL, x_lenT, x_tupL, x_tupT, x_int, x_wN, x_wC, x_ixT, x_ixL, x_isi, x_is_int_bool, x_is_int_int, x_is_int_str, x_is_int_tuple, x_is_int_list, x_is_int_dict, x_is_tup_bool, x_is_tup_int, x_is_tup_str, x_is_tup_tuple, x_is_tup_list, x_is_tup_dict, x_is_lst_bool, x_is_lst_int, x_is_lst_str, x_is_lst_tuple, x_is_lst_list, x_is_lst_dict, x_is_bl_bool, x_is_bl_int, x_is_bl_str, x_is_bl_tuple, x_is_bl_list, x_is_bl_dict, x_is_non_bool, x_is_non_int, x_is_non_str, x_is_non_tuple, x_is_non_list, x_is_non_dict, x_is_str_bool, x_is_str_int, x_is_str_str, x_is_str_tuple, x_is_str_list, x_is_str_dict, x_ite, x_itm, x_at0, x_at1, x_at2, x_addI, x_subI, x_pow18, x_mod, x_fdiv, x_sq, x_mul, x_mul', x_addT, x_addL, x_gt, x_ge, x_le, x_lt, eqD_int, neD_int, eqD_bool, neD_bool, getS, setS, List.map_cons, List.map_nil, List.length_cons, List.length_nil, List.cons_append, List.nil_append, List.replicate, Option.bind_some, Option.map_some, Option.bind_none, Option.map_none, if_true, if_false, ite_true, ite_false, reduceIte, Nat.reduceAdd, Nat.reduceSub, Nat.reduceLeDiff, Bool.false_eq_true, Nat.reduceEqDiff, Nat.le_refl, LIM, Bool.not_true, Bool.not_false, decide_true, decide_false, decide_eq_true_eq, Int.reduceEq, Int.reduceLT, Int.reduceLE, Int.reduceAdd, Int.reduceSub, Int.reduceNe, Int.reduceNeg, Int.cast_ofNat_Int, ne_eq, not_true_eq_false, not_false_eq_true])
      obtain ⟨t7, t8, t9, e⟩ := ways_item u v hvn rows row (by omega) ((d.flatMap fun row => (rng v.n).flatMap (stepF u v row)).map encI) s7 s8 s9 (by rw [List.length_map]; omega)
      rw [hl] at e
      rw [e, List.flatMap_append, List.flatMap_cons, List.flatMap_nil, List.append_nil, List.map_append]
      exact ⟨_, rfl, _, _, _, _, rfl⟩)
  exact ⟨t6, t7, t8, t9, e⟩
theorem ways_eval (u v : Wd) (hvn : v.n ≤ 16777216) (hv : 1 ≤ v.n) (hu : u.n ≤ 100) (hb : v.n ^ u.n ≤ 16777216) : m__law_ways [encW u, encW v, .int 0] = some (.list ((bfs u v u.n).map encI)) := by
  unfold m__law_ways S__law_ways
  (simp only [x_seq, x_nx, x_rt, x_lnx, x_lct, x_lbk, x_lrt, x_bk, x_ct, x_nil, x_ret, x_set, x_asg, x_new, x_frz, x_if, x_drop, x_for, x_gN, x_gT, x_gsN, x_gsC, x_var, x_vvar, x_c, x_bin, x_un, x_of, x_tru, x_tand, x_tor, x_tnot, x_tT, x_and, x_or, x_not, x_eif, x_aN, x_aC, x_tup, x_lst, x_llst, x_call, x_eL, x_lseq, x_rng1, x_comp, x_comp2, x_app, x_ext, x_frzE, x_f1, x_f2, x_fn, x_start, x_rrt, x_rnx, all_D, any_D, x_bN, x_bC, x_asB, x_asI, x_truB, x_truI, x_seqL, x_seqT, x_lenL, x_lenT, x_tupL, x_tupT, x_int, x_wN, x_wC, x_ixT, x_ixL, x_isi, x_is_int_bool, x_is_int_int, x_is_int_str, x_is_int_tuple, x_is_int_list, x_is_int_dict, x_is_tup_bool, x_is_tup_int, x_is_tup_str, x_is_tup_tuple, x_is_tup_list, x_is_tup_dict, x_is_lst_bool, x_is_lst_int, x_is_lst_str, x_is_lst_tuple, x_is_lst_list, x_is_lst_dict, x_is_bl_bool, x_is_bl_int, x_is_bl_str, x_is_bl_tuple, x_is_bl_list, x_is_bl_dict, x_is_non_bool, x_is_non_int, x_is_non_str, x_is_non_tuple, x_is_non_list, x_is_non_dict, x_is_str_bool, x_is_str_int, x_is_str_str, x_is_str_tuple, x_is_str_list, x_is_str_dict, x_ite, x_itm, x_at0, x_at1, x_at2, x_addI, x_subI, x_pow18, x_mod, x_fdiv, x_sq, x_mul, x_mul', x_addT, x_addL, x_gt, x_ge, x_le, x_lt, eqD_int, neD_int, eqD_bool, neD_bool, getS, setS, List.map_cons, List.map_nil, List.length_cons, List.length_nil, List.cons_append, List.nil_append, List.replicate, Option.bind_some, Option.map_some, Option.bind_none, Option.map_none, if_true, if_false, ite_true, ite_false, reduceIte, Nat.reduceAdd, Nat.reduceSub, Nat.reduceLeDiff, Bool.false_eq_true, Nat.reduceEqDiff, Nat.le_refl, LIM, Bool.not_true, Bool.not_false, decide_true, decide_false, decide_eq_true_eq, Int.reduceEq, Int.reduceLT, Int.reduceLE, Int.reduceAdd, Int.reduceSub, Int.reduceNe, Int.reduceNeg, Int.cast_ofNat_Int, ne_eq, not_true_eq_false, not_false_eq_true])
  rw [show ixD (encW u) (.int 0) = some (.int u.n) by unfold encW; (simp only [x_seq, x_nx, x_rt, x_lnx, x_lct, x_lbk, x_lrt, x_bk, x_ct, x_nil, x_ret, x_set, x_asg, x_new, x_frz, x_if, x_drop, x_for, x_gN, x_gT, x_gsN, x_gsC, x_var, x_vvar, x_c, x_bin, x_un, x_of, x_tru, x_tand, x_tor, x_tnot, x_tT, x_and, x_or, x_not, x_eif, x_aN, x_aC, x_tup, x_lst, x_llst, x_call, x_eL, x_lseq, x_rng1, x_comp, x_comp2, x_app, x_ext, x_frzE, x_f1, x_f2, x_fn, x_start, x_rrt, x_rnx, all_D, any_D, x_bN, x_bC, x_asB, x_asI, x_truB, x_truI, x_seqL, x_seqT, x_lenL, x_lenT, x_tupL, x_tupT, x_int, x_wN, x_wC, x_ixT, x_ixL, x_isi, x_is_int_bool, x_is_int_int, x_is_int_str, x_is_int_tuple, x_is_int_list, x_is_int_dict, x_is_tup_bool, x_is_tup_int, x_is_tup_str, x_is_tup_tuple, x_is_tup_list, x_is_tup_dict, x_is_lst_bool, x_is_lst_int, x_is_lst_str, x_is_lst_tuple, x_is_lst_list, x_is_lst_dict, x_is_bl_bool, x_is_bl_int, x_is_bl_str, x_is_bl_tuple, x_is_bl_list, x_is_bl_dict, x_is_non_bool, x_is_non_int, x_is_non_str, x_is_non_tuple, x_is_non_list, x_is_non_dict, x_is_str_bool, x_is_str_int, x_is_str_str, x_is_str_tuple, x_is_str_list, x_is_str_dict, x_ite, x_itm, x_at0, x_at1, x_at2, x_addI, x_subI, x_pow18, x_mod, x_fdiv, x_sq, x_mul, x_mul', x_addT, x_addL, x_gt, x_ge, x_le, x_lt, eqD_int, neD_int, eqD_bool, neD_bool, getS, setS, List.map_cons, List.map_nil, List.length_cons, List.length_nil, List.cons_append, List.nil_append, List.replicate, Option.bind_some, Option.map_some, Option.bind_none, Option.map_none, if_true, if_false, ite_true, ite_false, reduceIte, Nat.reduceAdd, Nat.reduceSub, Nat.reduceLeDiff, Bool.false_eq_true, Nat.reduceEqDiff, Nat.le_refl, LIM, Bool.not_true, Bool.not_false, decide_true, decide_false, decide_eq_true_eq, Int.reduceEq, Int.reduceLT, Int.reduceLE, Int.reduceAdd, Int.reduceSub, Int.reduceNe, Int.reduceNeg, Int.cast_ofNat_Int, ne_eq, not_true_eq_false, not_false_eq_true])]
  (simp only [x_seq, x_nx, x_rt, x_lnx, x_lct, x_lbk, x_lrt, x_bk, x_ct, x_nil, x_ret, x_set, x_asg, x_new, x_frz, x_if, x_drop, x_for, x_gN, x_gT, x_gsN, x_gsC, x_var, x_vvar, x_c, x_bin, x_un, x_of, x_tru, x_tand, x_tor, x_tnot, x_tT, x_and, x_or, x_not, x_eif, x_aN, x_aC, x_tup, x_lst, x_llst, x_call, x_eL, x_lseq, x_rng1, x_comp, x_comp2, x_app, x_ext, x_frzE, x_f1, x_f2, x_fn, x_start, x_rrt, x_rnx, all_D, any_D, x_bN, x_bC, x_asB, x_asI, x_truB, x_truI, x_seqL, x_seqT, x_lenL, x_lenT, x_tupL, x_tupT, x_int, x_wN, x_wC, x_ixT, x_ixL, x_isi, x_is_int_bool, x_is_int_int, x_is_int_str, x_is_int_tuple, x_is_int_list, x_is_int_dict, x_is_tup_bool, x_is_tup_int, x_is_tup_str, x_is_tup_tuple, x_is_tup_list, x_is_tup_dict, x_is_lst_bool, x_is_lst_int, x_is_lst_str, x_is_lst_tuple, x_is_lst_list, x_is_lst_dict, x_is_bl_bool, x_is_bl_int, x_is_bl_str, x_is_bl_tuple, x_is_bl_list, x_is_bl_dict, x_is_non_bool, x_is_non_int, x_is_non_str, x_is_non_tuple, x_is_non_list, x_is_non_dict, x_is_str_bool, x_is_str_int, x_is_str_str, x_is_str_tuple, x_is_str_list, x_is_str_dict, x_ite, x_itm, x_at0, x_at1, x_at2, x_addI, x_subI, x_pow18, x_mod, x_fdiv, x_sq, x_mul, x_mul', x_addT, x_addL, x_gt, x_ge, x_le, x_lt, eqD_int, neD_int, eqD_bool, neD_bool, getS, setS, List.map_cons, List.map_nil, List.length_cons, List.length_nil, List.cons_append, List.nil_append, List.replicate, Option.bind_some, Option.map_some, Option.bind_none, Option.map_none, if_true, if_false, ite_true, ite_false, reduceIte, Nat.reduceAdd, Nat.reduceSub, Nat.reduceLeDiff, Bool.false_eq_true, Nat.reduceEqDiff, Nat.le_refl, LIM, Bool.not_true, Bool.not_false, decide_true, decide_false, decide_eq_true_eq, Int.reduceEq, Int.reduceLT, Int.reduceLE, Int.reduceAdd, Int.reduceSub, Int.reduceNe, Int.reduceNeg, Int.cast_ofNat_Int, ne_eq, not_true_eq_false, not_false_eq_true])
  rw [rngD_nat (show u.n ≤ 16777216 by omega)]
  (simp only [x_seq, x_nx, x_rt, x_lnx, x_lct, x_lbk, x_lrt, x_bk, x_ct, x_nil, x_ret, x_set, x_asg, x_new, x_frz, x_if, x_drop, x_for, x_gN, x_gT, x_gsN, x_gsC, x_var, x_vvar, x_c, x_bin, x_un, x_of, x_tru, x_tand, x_tor, x_tnot, x_tT, x_and, x_or, x_not, x_eif, x_aN, x_aC, x_tup, x_lst, x_llst, x_call, x_eL, x_lseq, x_rng1, x_comp, x_comp2, x_app, x_ext, x_frzE, x_f1, x_f2, x_fn, x_start, x_rrt, x_rnx, all_D, any_D, x_bN, x_bC, x_asB, x_asI, x_truB, x_truI, x_seqL, x_seqT, x_lenL, x_lenT, x_tupL, x_tupT, x_int, x_wN, x_wC, x_ixT, x_ixL, x_isi, x_is_int_bool, x_is_int_int, x_is_int_str, x_is_int_tuple, x_is_int_list, x_is_int_dict, x_is_tup_bool, x_is_tup_int, x_is_tup_str, x_is_tup_tuple, x_is_tup_list, x_is_tup_dict, x_is_lst_bool, x_is_lst_int, x_is_lst_str, x_is_lst_tuple, x_is_lst_list, x_is_lst_dict, x_is_bl_bool, x_is_bl_int, x_is_bl_str, x_is_bl_tuple, x_is_bl_list, x_is_bl_dict, x_is_non_bool, x_is_non_int, x_is_non_str, x_is_non_tuple, x_is_non_list, x_is_non_dict, x_is_str_bool, x_is_str_int, x_is_str_str, x_is_str_tuple, x_is_str_list, x_is_str_dict, x_ite, x_itm, x_at0, x_at1, x_at2, x_addI, x_subI, x_pow18, x_mod, x_fdiv, x_sq, x_mul, x_mul', x_addT, x_addL, x_gt, x_ge, x_le, x_lt, eqD_int, neD_int, eqD_bool, neD_bool, getS, setS, List.map_cons, List.map_nil, List.length_cons, List.length_nil, List.cons_append, List.nil_append, List.replicate, Option.bind_some, Option.map_some, Option.bind_none, Option.map_none, if_true, if_false, ite_true, ite_false, reduceIte, Nat.reduceAdd, Nat.reduceSub, Nat.reduceLeDiff, Bool.false_eq_true, Nat.reduceEqDiff, Nat.le_refl, LIM, Bool.not_true, Bool.not_false, decide_true, decide_false, decide_eq_true_eq, Int.reduceEq, Int.reduceLT, Int.reduceLE, Int.reduceAdd, Int.reduceSub, Int.reduceNe, Int.reduceNeg, Int.cast_ofNat_Int, ne_eq, not_true_eq_false, not_false_eq_true])
  obtain ⟨ρ', e, t4, t5, t6, t7, t8, t9, rfl⟩ := forD_at (gg := gN 4) (S := b__law_ways_2) PyData.int
    (fun done ρ => ∃ s4 s5 s6 s7 s8 s9, ρ = [.dat (encW u), .dat (encW v), .dat (.int 0), .dat (.list ((bfs u v done.length).map encI)), s4, s5, s6, s7, s8, s9]) (rng u.n) [] _ ⟨.un, .un, .un, .un, .un, .un, rfl⟩ (fun d x rest hd ρ ⟨s4, s5, s6, s7, s8, s9, e⟩ => by
      subst e
      rw [List.nil_append] at hd
      refine ⟨_, rfl, ?_⟩
      have h3 : d.length + 1 ≤ u.n := by
        have := congrArg List.length hd
        rw [len_rng, List.length_append, List.length_cons] at this
        omega
      have hx : x = d.length := rng_at hd
      subst hx
      unfold b__law_ways_2
      (simp only [x_seq, x_nx, x_rt, x_lnx, x_lct, x_lbk, x_lrt, x_bk, x_ct, x_nil, x_ret, x_set, x_asg, x_new, x_frz, x_if, x_drop, x_for, x_gN, x_gT, x_gsN, x_gsC, x_var, x_vvar, x_c, x_bin, x_un, x_of, x_tru, x_tand, x_tor, x_tnot, x_tT, x_and, x_or, x_not, x_eif, x_aN, x_aC, x_tup, x_lst, x_llst, x_call, x_eL, x_lseq, x_rng1, x_comp, x_comp2, x_app, x_ext, x_frzE, x_f1, x_f2, x_fn, x_start, x_rrt, x_rnx, all_D, any_D, x_bN, x_bC, x_asB, x_asI, x_truB, x_truI, x_seqL, x_seqT, x_lenL, x_lenT, x_tupL, x_tupT, x_int, x_wN, x_wC, x_ixT, x_ixL, x_isi, x_is_int_bool, x_is_int_int, x_is_int_str, x_is_int_tuple, x_is_int_list, x_is_int_dict, x_is_tup_bool, x_is_tup_int, x_is_tup_str, x_is_tup_tuple, x_is_tup_list, x_is_tup_dict, x_is_lst_bool, x_is_lst_int, x_is_lst_str, x_is_lst_tuple, x_is_lst_list, x_is_lst_dict, x_is_bl_bool, x_is_bl_int, x_is_bl_str, x_is_bl_tuple, x_is_bl_list, x_is_bl_dict, x_is_non_bool, x_is_non_int, x_is_non_str, x_is_non_tuple, x_is_non_list, x_is_non_dict, x_is_str_bool, x_is_str_int, x_is_str_str, x_is_str_tuple, x_is_str_list, x_is_str_dict, x_ite, x_itm, x_at0, x_at1, x_at2, x_addI, x_subI, x_pow18, x_mod, x_fdiv, x_sq, x_mul, x_mul', x_addT, x_addL, x_gt, x_ge, x_le, x_lt, eqD_int, neD_int, eqD_bool, neD_bool, getS, setS, List.map_cons, List.map_nil, List.length_cons, List.length_nil, List.cons_append, List.nil_append, List.replicate, Option.bind_some, Option.map_some, Option.bind_none, Option.map_none, if_true, if_false, ite_true, ite_false, reduceIte, Nat.reduceAdd, Nat.reduceSub, Nat.reduceLeDiff, Bool.false_eq_true, Nat.reduceEqDiff, Nat.le_refl, LIM, Bool.not_true, Bool.not_false, decide_true, decide_false, decide_eq_true_eq, Int.reduceEq, Int.reduceLT, Int.reduceLE, Int.reduceAdd, Int.reduceSub, Int.reduceNe, Int.reduceNeg, Int.cast_ofNat_Int, ne_eq, not_true_eq_false, not_false_eq_true])
      obtain ⟨t6, t7, t8, t9, e⟩ := ways_row u v hvn hv (.list ((bfs u v d.length).map encI)) d.length (by omega) (Nat.le_trans (Nat.pow_le_pow_right hv h3) hb) s6 s7 s8 s9
      rw [e]
      (simp only [x_seq, x_nx, x_rt, x_lnx, x_lct, x_lbk, x_lrt, x_bk, x_ct, x_nil, x_ret, x_set, x_asg, x_new, x_frz, x_if, x_drop, x_for, x_gN, x_gT, x_gsN, x_gsC, x_var, x_vvar, x_c, x_bin, x_un, x_of, x_tru, x_tand, x_tor, x_tnot, x_tT, x_and, x_or, x_not, x_eif, x_aN, x_aC, x_tup, x_lst, x_llst, x_call, x_eL, x_lseq, x_rng1, x_comp, x_comp2, x_app, x_ext, x_frzE, x_f1, x_f2, x_fn, x_start, x_rrt, x_rnx, all_D, any_D, x_bN, x_bC, x_asB, x_asI, x_truB, x_truI, x_seqL, x_seqT, x_lenL, x_lenT, x_tupL, x_tupT, x_int, x_wN, x_wC, x_ixT, x_ixL, x_isi, x_is_int_bool, x_is_int_int, x_is_int_str, x_is_int_tuple, x_is_int_list, x_is_int_dict, x_is_tup_bool, x_is_tup_int, x_is_tup_str, x_is_tup_tuple, x_is_tup_list, x_is_tup_dict, x_is_lst_bool, x_is_lst_int, x_is_lst_str, x_is_lst_tuple, x_is_lst_list, x_is_lst_dict, x_is_bl_bool, x_is_bl_int, x_is_bl_str, x_is_bl_tuple, x_is_bl_list, x_is_bl_dict, x_is_non_bool, x_is_non_int, x_is_non_str, x_is_non_tuple, x_is_non_list, x_is_non_dict, x_is_str_bool, x_is_str_int, x_is_str_str, x_is_str_tuple, x_is_str_list, x_is_str_dict, x_ite, x_itm, x_at0, x_at1, x_at2, x_addI, x_subI, x_pow18, x_mod, x_fdiv, x_sq, x_mul, x_mul', x_addT, x_addL, x_gt, x_ge, x_le, x_lt, eqD_int, neD_int, eqD_bool, neD_bool, getS, setS, List.map_cons, List.map_nil, List.length_cons, List.length_nil, List.cons_append, List.nil_append, List.replicate, Option.bind_some, Option.map_some, Option.bind_none, Option.map_none, if_true, if_false, ite_true, ite_false, reduceIte, Nat.reduceAdd, Nat.reduceSub, Nat.reduceLeDiff, Bool.false_eq_true, Nat.reduceEqDiff, Nat.le_refl, LIM, Bool.not_true, Bool.not_false, decide_true, decide_false, decide_eq_true_eq, Int.reduceEq, Int.reduceLT, Int.reduceLE, Int.reduceAdd, Int.reduceSub, Int.reduceNe, Int.reduceNeg, Int.cast_ofNat_Int, ne_eq, not_true_eq_false, not_false_eq_true])
      rw [List.length_append]
      exact ⟨_, rfl, _, _, _, _, _, _, rfl⟩)
  refine (bind2_of e).trans ?_
  (simp only [x_seq, x_nx, x_rt, x_lnx, x_lct, x_lbk, x_lrt, x_bk, x_ct, x_nil, x_ret, x_set, x_asg, x_new, x_frz, x_if, x_drop, x_for, x_gN, x_gT, x_gsN, x_gsC, x_var, x_vvar, x_c, x_bin, x_un, x_of, x_tru, x_tand, x_tor, x_tnot, x_tT, x_and, x_or, x_not, x_eif, x_aN, x_aC, x_tup, x_lst, x_llst, x_call, x_eL, x_lseq, x_rng1, x_comp, x_comp2, x_app, x_ext, x_frzE, x_f1, x_f2, x_fn, x_start, x_rrt, x_rnx, all_D, any_D, x_bN, x_bC, x_asB, x_asI, x_truB, x_truI, x_seqL, x_seqT, x_lenL, x_lenT, x_tupL, x_tupT, x_int, x_wN, x_wC, x_ixT, x_ixL, x_isi, x_is_int_bool, x_is_int_int, x_is_int_str, x_is_int_tuple, x_is_int_list, x_is_int_dict, x_is_tup_bool, x_is_tup_int, x_is_tup_str, x_is_tup_tuple, x_is_tup_list, x_is_tup_dict, x_is_lst_bool, x_is_lst_int, x_is_lst_str, x_is_lst_tuple, x_is_lst_list, x_is_lst_dict, x_is_bl_bool, x_is_bl_int, x_is_bl_str, x_is_bl_tuple, x_is_bl_list, x_is_bl_dict, x_is_non_bool, x_is_non_int, x_is_non_str, x_is_non_tuple, x_is_non_list, x_is_non_dict, x_is_str_bool, x_is_str_int, x_is_str_str, x_is_str_tuple, x_is_str_list, x_is_str_dict, x_ite, x_itm, x_at0, x_at1, x_at2, x_addI, x_subI, x_pow18, x_mod, x_fdiv, x_sq, x_mul, x_mul', x_addT, x_addL, x_gt, x_ge, x_le, x_lt, eqD_int, neD_int, eqD_bool, neD_bool, getS, setS, List.map_cons, List.map_nil, List.length_cons, List.length_nil, List.cons_append, List.nil_append, List.replicate, Option.bind_some, Option.map_some, Option.bind_none, Option.map_none, if_true, if_false, ite_true, ite_false, reduceIte, Nat.reduceAdd, Nat.reduceSub, Nat.reduceLeDiff, Bool.false_eq_true, Nat.reduceEqDiff, Nat.le_refl, LIM, Bool.not_true, Bool.not_false, decide_true, decide_false, decide_eq_true_eq, Int.reduceEq, Int.reduceLT, Int.reduceLE, Int.reduceAdd, Int.reduceSub, Int.reduceNe, Int.reduceNeg, Int.cast_ofNat_Int, ne_eq, not_true_eq_false, not_false_eq_true])
  rw [len_rng]
theorem dec_comm {a b : Int} : decide (a = b) = decide (b = a) := decide_eq_decide.mpr ⟨Eq.symm, Eq.symm⟩
def prow (row : List Int) : List (Int × Int) := (List.range row.length).map fun k : Nat => ((k : Int), row.getD k 0)
theorem prs_prow (row : List Int) (x : Int) : prs row x = prow (row ++ [x]) := by
  unfold prs prow
  rw [List.length_append, List.length_cons, List.length_nil, List.range_succ, List.map_append, List.map_cons, List.map_nil]
  congr 1
  · refine List.map_congr_left fun k hk => ?_
    have := List.mem_range.mp hk
    rw [List.getD_eq_getElem?_getD, List.getD_eq_getElem?_getD, List.getElem?_append_left this]
  · rw [List.getD_eq_getElem?_getD, List.getElem?_append_right (Nat.le_refl _), Nat.sub_self] <;> rfl
theorem F_last (u v : Wd) (x y : Int × Int) (hx : F u v x x = true) (hy : F u v y y = true) : F u v x y = F u v y x := by
  unfold F at hx hy ⊢
  simp only [Bool.and_eq_true] at hx hy
  obtain ⟨_, a1, a2, _⟩ := hx
  obtain ⟨_, b1, b2, _⟩ := hy
  rw [a1, a2, b1, b2, dec_comm (a := x.1), dec_comm (a := x.2)]
  simp only [Bool.true_and]
  rw [Bool.and_comm (has (x.1, y.1) u.ar == has (x.2, y.2) v.ar)]
theorem allF_snoc (u v : Wd) (ps : List (Int × Int)) (q : Int × Int) (h : allF u v ps = true) : allF u v (ps ++ [q]) = (ps ++ [q]).all fun p => F u v q p := by
  rw [Bool.eq_iff_iff]
  unfold allF at h ⊢
  simp only [List.all_eq_true] at h ⊢
  constructor
  · intro a
    exact a q (List.mem_append_right _ List.mem_cons_self)
  · intro a x hx y hy
    have hq : F u v q q = true := a q (List.mem_append_right _ List.mem_cons_self)
    rcases List.mem_append.mp hx with m1 | m1
    · rcases List.mem_append.mp hy with m2 | m2
      · exact h x m1 y m2
      · rw [List.mem_singleton.mp m2, F_last u v x q (h x m1 x m1) hq]
        exact a x hx
    · rw [List.mem_singleton.mp m1]
      exact a y hy
theorem bfs_all (u v : Wd) : ∀ (k : Nat) (row : List Int), row ∈ bfs u v k → allF u v (prow row) = true
  | 0, row, h => by
    obtain rfl := List.mem_singleton.mp h
    rfl
  | k + 1, row, h => by
    obtain ⟨r0, h0, h⟩ := List.mem_flatMap.mp h
    obtain ⟨x, hx, h⟩ := List.mem_flatMap.mp h
    unfold stepF at h
    split at h
    · rename_i e
      obtain rfl := List.mem_singleton.mp h
      rw [← prs_prow]; exact e
    · cases h
def stepG (u v : Wd) (row : List Int) (x : Int) : List (List Int) := if good u v row x = true then [row ++ [x]] else []
theorem step_eq (u v : Wd) (k : Nat) (row : List Int) (h : row ∈ bfs u v k) (x : Int) : stepF u v row x = stepG u v row x := by
  have a := bfs_all u v k row h
  unfold stepF stepG good
  rw [show prs row x = prow row ++ [((row.length : Int), x)] from rfl, allF_snoc u v _ _ a]
theorem dfs_step (u v : Wd) (r : Nat) (b : List Int) : dfs u v (r + 1) b = ((rng v.n).flatMap (stepG u v b)).flatMap (dfs u v r) := by
  rw [List.flatMap_assoc]
  show ((rng v.n).flatMap fun x => if good u v b x = true then dfs u v r (b ++ [x]) else []) = _
  congr 1
  funext x
  unfold stepG
  split
  · rw [List.flatMap_cons, List.flatMap_nil, List.append_nil]
  · rfl
theorem flat_congr {α β : Type} {f g : α → List β} : ∀ {l : List α}, (∀ x ∈ l, f x = g x) → l.flatMap f = l.flatMap g
  | [], _ => rfl
  | x :: l, h => by rw [List.flatMap_cons, List.flatMap_cons, h x List.mem_cons_self, flat_congr fun y hy => h y (List.mem_cons_of_mem _ hy)]
theorem bfs_dfs (u v : Wd) : ∀ (r k : Nat), (bfs u v k).flatMap (dfs u v r) = bfs u v (k + r)
  | 0, k => by
    show (bfs u v k).flatMap (fun b => [b]) = _
    rw [List.flatMap_singleton']
    rfl
  | r + 1, k => by
    rw [show k + (r + 1) = (k + 1) + r by omega, ← bfs_dfs u v r (k + 1)]
    show _ = ((bfs u v k).flatMap fun row => (rng v.n).flatMap (stepF u v row)).flatMap (dfs u v r)
    rw [List.flatMap_assoc]
    refine flat_congr fun b hb => ?_
    rw [dfs_step]
    congr 1
    refine flat_congr fun x _ => (step_eq u v k b hb x).symm
theorem dfs_bfs (u v : Wd) (r : Nat) : dfs u v r [] = bfs u v r := by
  have := bfs_dfs u v r 0
  rw [Nat.zero_add] at this
  rw [← this]
  show _ = [[]].flatMap (dfs u v r)
  rw [List.flatMap_cons, List.flatMap_nil, List.append_nil]
/-! ### tuples -/
def tups (n : Nat) : Nat → List (List Int)
  | 0 => [[]]
  | s + 1 => (tups n s).flatMap fun row => (rng n).map fun x => row ++ [x]
theorem tups_len (n : Nat) : ∀ (s : Nat) (row : List Int), row ∈ tups n s → row.length = s
  | 0, row, h => by
    obtain rfl := List.mem_singleton.mp h
    rfl
  | s + 1, row, h => by
    obtain ⟨r0, h0, h⟩ := List.mem_flatMap.mp h
    obtain ⟨x, hx, rfl⟩ := List.mem_map.mp h
    rw [List.length_append, tups_len n s r0 h0] <;> rfl
theorem tups_le (n : Nat) : ∀ s : Nat, (tups n s).length ≤ n ^ s
  | 0 => Nat.le_refl _
  | s + 1 => by
    have h := flat_le (fun row => (rng n).map fun x => row ++ [x]) n (tups n s) fun row _ => by
      show ((rng n).map fun x => row ++ [x]).length ≤ n
      rw [List.length_map, len_rng]; exact Nat.le_refl _
    rw [Nat.pow_succ]
    exact Nat.le_trans h (Nat.mul_le_mul_right _ (tups_le n s))
theorem tuples_eval (n s : Nat) (hn : n ≤ 16777216) (hn1 : 1 ≤ n) (hs : s ≤ 100) (hb : n ^ s ≤ 16777216) : m_tuples_of [.int n, .int s] = some (.list ((tups n s).map encI)) := by
  unfold m_tuples_of S_tuples_of
  (simp only [x_seq, x_nx, x_rt, x_lnx, x_lct, x_lbk, x_lrt, x_bk, x_ct, x_nil, x_ret, x_set, x_asg, x_new, x_frz, x_if, x_drop, x_for, x_gN, x_gT, x_gsN, x_gsC, x_var, x_vvar, x_c, x_bin, x_un, x_of, x_tru, x_tand, x_tor, x_tnot, x_tT, x_and, x_or, x_not, x_eif, x_aN, x_aC, x_tup, x_lst, x_llst, x_call, x_eL, x_lseq, x_rng1, x_comp, x_comp2, x_app, x_ext, x_frzE, x_f1, x_f2, x_fn, x_start, x_rrt, x_rnx, all_D, any_D, x_bN, x_bC, x_asB, x_asI, x_truB, x_truI, x_seqL, x_seqT, x_lenL, x_lenT, x_tupL, x_tupT, x_int, x_wN, x_wC, x_ixT, x_ixL, x_isi, x_is_int_bool, x_is_int_int, x_is_int_str, x_is_int_tuple, x_is_int_list, x_is_int_dict, x_is_tup_bool, x_is_tup_int, x_is_tup_str, x_is_tup_tuple, x_is_tup_list, x_is_tup_dict, x_is_lst_bool, x_is_lst_int, x_is_lst_str, x_is_lst_tuple, x_is_lst_list, x_is_lst_dict, x_is_bl_bool, x_is_bl_int, x_is_bl_str, x_is_bl_tuple, x_is_bl_list, x_is_bl_dict, x_is_non_bool, x_is_non_int, x_is_non_str, x_is_non_tuple, x_is_non_list, x_is_non_dict, x_is_str_bool, x_is_str_int, x_is_str_str, x_is_str_tuple, x_is_str_list, x_is_str_dict, x_ite, x_itm, x_at0, x_at1, x_at2, x_addI, x_subI, x_pow18, x_mod, x_fdiv, x_sq, x_mul, x_mul', x_addT, x_addL, x_gt, x_ge, x_le, x_lt, eqD_int, neD_int, eqD_bool, neD_bool, getS, setS, List.map_cons, List.map_nil, List.length_cons, List.length_nil, List.cons_append, List.nil_append, List.replicate, Option.bind_some, Option.map_some, Option.bind_none, Option.map_none, if_true, if_false, ite_true, ite_false, reduceIte, Nat.reduceAdd, Nat.reduceSub, Nat.reduceLeDiff, Bool.false_eq_true, Nat.reduceEqDiff, Nat.le_refl, LIM, Bool.not_true, Bool.not_false, decide_true, decide_false, decide_eq_true_eq, Int.reduceEq, Int.reduceLT, Int.reduceLE, Int.reduceAdd, Int.reduceSub, Int.reduceNe, Int.reduceNeg, Int.cast_ofNat_Int, ne_eq, not_true_eq_false, not_false_eq_true])
  rw [rngD_nat (show s ≤ 16777216 by omega)]
  (simp only [x_seq, x_nx, x_rt, x_lnx, x_lct, x_lbk, x_lrt, x_bk, x_ct, x_nil, x_ret, x_set, x_asg, x_new, x_frz, x_if, x_drop, x_for, x_gN, x_gT, x_gsN, x_gsC, x_var, x_vvar, x_c, x_bin, x_un, x_of, x_tru, x_tand, x_tor, x_tnot, x_tT, x_and, x_or, x_not, x_eif, x_aN, x_aC, x_tup, x_lst, x_llst, x_call, x_eL, x_lseq, x_rng1, x_comp, x_comp2, x_app, x_ext, x_frzE, x_f1, x_f2, x_fn, x_start, x_rrt, x_rnx, all_D, any_D, x_bN, x_bC, x_asB, x_asI, x_truB, x_truI, x_seqL, x_seqT, x_lenL, x_lenT, x_tupL, x_tupT, x_int, x_wN, x_wC, x_ixT, x_ixL, x_isi, x_is_int_bool, x_is_int_int, x_is_int_str, x_is_int_tuple, x_is_int_list, x_is_int_dict, x_is_tup_bool, x_is_tup_int, x_is_tup_str, x_is_tup_tuple, x_is_tup_list, x_is_tup_dict, x_is_lst_bool, x_is_lst_int, x_is_lst_str, x_is_lst_tuple, x_is_lst_list, x_is_lst_dict, x_is_bl_bool, x_is_bl_int, x_is_bl_str, x_is_bl_tuple, x_is_bl_list, x_is_bl_dict, x_is_non_bool, x_is_non_int, x_is_non_str, x_is_non_tuple, x_is_non_list, x_is_non_dict, x_is_str_bool, x_is_str_int, x_is_str_str, x_is_str_tuple, x_is_str_list, x_is_str_dict, x_ite, x_itm, x_at0, x_at1, x_at2, x_addI, x_subI, x_pow18, x_mod, x_fdiv, x_sq, x_mul, x_mul', x_addT, x_addL, x_gt, x_ge, x_le, x_lt, eqD_int, neD_int, eqD_bool, neD_bool, getS, setS, List.map_cons, List.map_nil, List.length_cons, List.length_nil, List.cons_append, List.nil_append, List.replicate, Option.bind_some, Option.map_some, Option.bind_none, Option.map_none, if_true, if_false, ite_true, ite_false, reduceIte, Nat.reduceAdd, Nat.reduceSub, Nat.reduceLeDiff, Bool.false_eq_true, Nat.reduceEqDiff, Nat.le_refl, LIM, Bool.not_true, Bool.not_false, decide_true, decide_false, decide_eq_true_eq, Int.reduceEq, Int.reduceLT, Int.reduceLE, Int.reduceAdd, Int.reduceSub, Int.reduceNe, Int.reduceNeg, Int.cast_ofNat_Int, ne_eq, not_true_eq_false, not_false_eq_true])
  obtain ⟨ρ', e, t3, t4, t5, rfl⟩ := forD_at (gg := gN 3) (S := b_tuples_of_0) PyData.int
    (fun done ρ => ∃ s3 s4 s5, ρ = [.dat (.int n), .dat (.int s), .dat (.list ((tups n done.length).map encI)), s3, s4, s5]) (rng s) [] _ ⟨.un, .un, .un, rfl⟩ (fun d x rest hd ρ ⟨s3, s4, s5, e⟩ => by
      subst e
      rw [List.nil_append] at hd
      have h3 : d.length + 1 ≤ s := by
        have := congrArg List.length hd
        rw [len_rng, List.length_append, List.length_cons] at this
        omega
      have h4 : n ^ (d.length + 1) ≤ 16777216 := Nat.le_trans (Nat.pow_le_pow_right hn1 h3) hb
      refine ⟨_, rfl, ?_⟩
      unfold b_tuples_of_0
      (simp only [x_seq, x_nx, x_rt, x_lnx, x_lct, x_lbk, x_lrt, x_bk, x_ct, x_nil, x_ret, x_set, x_asg, x_new, x_frz, x_if, x_drop, x_for, x_gN, x_gT, x_gsN, x_gsC, x_var, x_vvar, x_c, x_bin, x_un, x_of, x_tru, x_tand, x_tor, x_tnot, x_tT, x_and, x_or, x_not, x_eif, x_aN, x_aC, x_tup, x_lst, x_llst, x_call, x_eL, x_lseq, x_rng1, x_comp, x_comp2, x_app, x_ext, x_frzE, x_f1, x_f2, x_fn, x_start, x_rrt, x_rnx, all_D, any_D, x_bN, x_bC, x_asB, x_asI, x_truB, x_truI, x_seqL, x_seqT, x_lenL, x_lenT, x_tupL, x_tupT, x_int, x_wN, x_wC, x_ixT, x_ixL, x_isi, x_is_int_bool, x_is_int_int, x_is_int_str, x_is_int_tuple, x_is_int_list, x_is_int_dict, x_is_tup_bool, x_is_tup_int, x_is_tup_str, x_is_tup_tuple, x_is_tup_list, x_is_tup_dict, x_is_lst_bool, x_is_lst_int, x_is_lst_str, x_is_lst_tuple, x_is_lst_list, x_is_lst_dict, x_is_bl_bool, x_is_bl_int, x_is_bl_str, x_is_bl_tuple, x_is_bl_list, x_is_bl_dict, x_is_non_bool, x_is_non_int, x_is_non_str, x_is_non_tuple, x_is_non_list, x_is_non_dict, x_is_str_bool, x_is_str_int, x_is_str_str, x_is_str_tuple, x_is_str_list, x_is_str_dict, x_ite, x_itm, x_at0, x_at1, x_at2, x_addI, x_subI, x_pow18, x_mod, x_fdiv, x_sq, x_mul, x_mul', x_addT, x_addL, x_gt, x_ge, x_le, x_lt, eqD_int, neD_int, eqD_bool, neD_bool, getS, setS, List.map_cons, List.map_nil, List.length_cons, List.length_nil, List.cons_append, List.nil_append, List.replicate, Option.bind_some, Option.map_some, Option.bind_none, Option.map_none, if_true, if_false, ite_true, ite_false, reduceIte, Nat.reduceAdd, Nat.reduceSub, Nat.reduceLeDiff, Bool.false_eq_true, Nat.reduceEqDiff, Nat.le_refl, LIM, Bool.not_true, Bool.not_false, decide_true, decide_false, decide_eq_true_eq, Int.reduceEq, Int.reduceLT, Int.reduceLE, Int.reduceAdd, Int.reduceSub, Int.reduceNe, Int.reduceNeg, Int.cast_ofNat_Int, ne_eq, not_true_eq_false, not_false_eq_true])
      rw [compD2_all encI (fun row => (rng n).map fun x => encI (row ++ [x])) (tups n d.length) fun row hrow => ⟨_, _, rfl, by (simp only [x_seq, x_nx, x_rt, x_lnx, x_lct, x_lbk, x_lrt, x_bk, x_ct, x_nil, x_ret, x_set, x_asg, x_new, x_frz, x_if, x_drop, x_for, x_gN, x_gT, x_gsN, x_gsC, x_var, x_vvar, x_c, x_bin, x_un, x_of, x_tru, x_tand, x_tor, x_tnot, x_tT, x_and, x_or, x_not, x_eif, x_aN, x_aC, x_tup, x_lst, x_llst, x_call, x_eL, x_lseq, x_rng1, x_comp, x_comp2, x_app, x_ext, x_frzE, x_f1, x_f2, x_fn, x_start, x_rrt, x_rnx, all_D, any_D, x_bN, x_bC, x_asB, x_asI, x_truB, x_truI, x_seqL, x_seqT, x_lenL, x_lenT, x_tupL, x_tupT, x_int, x_wN, x_wC, x_ixT, x_ixL, x_isi, x_is_int_bool, x_is_int_int, x_is_int_str, x_is_int_tuple, x_is_int_list, x_is_int_dict, x_is_tup_bool, x_is_tup_int, x_is_tup_str, x_is_tup_tuple, x_is_tup_list, x_is_tup_dict, x_is_lst_bool, x_is_lst_int, x_is_lst_str, x_is_lst_tuple, x_is_lst_list, x_is_lst_dict, x_is_bl_bool, x_is_bl_int, x_is_bl_str, x_is_bl_tuple, x_is_bl_list, x_is_bl_dict, x_is_non_bool, x_is_non_int, x_is_non_str, x_is_non_tuple, x_is_non_list, x_is_non_dict, x_is_str_bool, x_is_str_int, x_is_str_str, x_is_str_tuple, x_is_str_list, x_is_str_dict, x_ite, x_itm, x_at0, x_at1, x_at2, x_addI, x_subI, x_pow18, x_mod, x_fdiv, x_sq, x_mul, x_mul', x_addT, x_addL, x_gt, x_ge, x_le, x_lt, eqD_int, neD_int, eqD_bool, neD_bool, getS, setS, List.map_cons, List.map_nil, List.length_cons, List.length_nil, List.cons_append, List.nil_append, List.replicate, Option.bind_some, Option.map_some, Option.bind_none, Option.map_none, if_true, if_false, ite_true, ite_false, reduceIte, Nat.reduceAdd, Nat.reduceSub, Nat.reduceLeDiff, Bool.false_eq_true, Nat.reduceEqDiff, Nat.le_refl, LIM, Bool.not_true, Bool.not_false, decide_true, decide_false, decide_eq_true_eq, Int.reduceEq, Int.reduceLT, Int.reduceLE, Int.reduceAdd, Int.reduceSub, Int.reduceNe, Int.reduceNeg, Int.cast_ofNat_Int, ne_eq, not_true_eq_false, not_false_eq_true]); rw [rngD_nat hn], by
        rw [compD_all PyData.int (fun x => encI (row ++ [x])) (rng n) fun x hx => ⟨_, rfl, by
          unfold encI
          (simp only [x_seq, x_nx, x_rt, x_lnx, x_lct, x_lbk, x_lrt, x_bk, x_ct, x_nil, x_ret, x_set, x_asg, x_new, x_frz, x_if, x_drop, x_for, x_gN, x_gT, x_gsN, x_gsC, x_var, x_vvar, x_c, x_bin, x_un, x_of, x_tru, x_tand, x_tor, x_tnot, x_tT, x_and, x_or, x_not, x_eif, x_aN, x_aC, x_tup, x_lst, x_llst, x_call, x_eL, x_lseq, x_rng1, x_comp, x_comp2, x_app, x_ext, x_frzE, x_f1, x_f2, x_fn, x_start, x_rrt, x_rnx, all_D, any_D, x_bN, x_bC, x_asB, x_asI, x_truB, x_truI, x_seqL, x_seqT, x_lenL, x_lenT, x_tupL, x_tupT, x_int, x_wN, x_wC, x_ixT, x_ixL, x_isi, x_is_int_bool, x_is_int_int, x_is_int_str, x_is_int_tuple, x_is_int_list, x_is_int_dict, x_is_tup_bool, x_is_tup_int, x_is_tup_str, x_is_tup_tuple, x_is_tup_list, x_is_tup_dict, x_is_lst_bool, x_is_lst_int, x_is_lst_str, x_is_lst_tuple, x_is_lst_list, x_is_lst_dict, x_is_bl_bool, x_is_bl_int, x_is_bl_str, x_is_bl_tuple, x_is_bl_list, x_is_bl_dict, x_is_non_bool, x_is_non_int, x_is_non_str, x_is_non_tuple, x_is_non_list, x_is_non_dict, x_is_str_bool, x_is_str_int, x_is_str_str, x_is_str_tuple, x_is_str_list, x_is_str_dict, x_ite, x_itm, x_at0, x_at1, x_at2, x_addI, x_subI, x_pow18, x_mod, x_fdiv, x_sq, x_mul, x_mul', x_addT, x_addL, x_gt, x_ge, x_le, x_lt, eqD_int, neD_int, eqD_bool, neD_bool, getS, setS, List.map_cons, List.map_nil, List.length_cons, List.length_nil, List.cons_append, List.nil_append, List.replicate, Option.bind_some, Option.map_some, Option.bind_none, Option.map_none, if_true, if_false, ite_true, ite_false, reduceIte, Nat.reduceAdd, Nat.reduceSub, Nat.reduceLeDiff, Bool.false_eq_true, Nat.reduceEqDiff, Nat.le_refl, LIM, Bool.not_true, Bool.not_false, decide_true, decide_false, decide_eq_true_eq, Int.reduceEq, Int.reduceLT, Int.reduceLE, Int.reduceAdd, Int.reduceSub, Int.reduceNe, Int.reduceNeg, Int.cast_ofNat_Int, ne_eq, not_true_eq_false, not_false_eq_true])
          have := tups_len n _ row hrow
          rw [if_pos (by rw [List.length_map]; omega), List.map_append]
          rfl⟩]⟩]
      (simp only [x_seq, x_nx, x_rt, x_lnx, x_lct, x_lbk, x_lrt, x_bk, x_ct, x_nil, x_ret, x_set, x_asg, x_new, x_frz, x_if, x_drop, x_for, x_gN, x_gT, x_gsN, x_gsC, x_var, x_vvar, x_c, x_bin, x_un, x_of, x_tru, x_tand, x_tor, x_tnot, x_tT, x_and, x_or, x_not, x_eif, x_aN, x_aC, x_tup, x_lst, x_llst, x_call, x_eL, x_lseq, x_rng1, x_comp, x_comp2, x_app, x_ext, x_frzE, x_f1, x_f2, x_fn, x_start, x_rrt, x_rnx, all_D, any_D, x_bN, x_bC, x_asB, x_asI, x_truB, x_truI, x_seqL, x_seqT, x_lenL, x_lenT, x_tupL, x_tupT, x_int, x_wN, x_wC, x_ixT, x_ixL, x_isi, x_is_int_bool, x_is_int_int, x_is_int_str, x_is_int_tuple, x_is_int_list, x_is_int_dict, x_is_tup_bool, x_is_tup_int, x_is_tup_str, x_is_tup_tuple, x_is_tup_list, x_is_tup_dict, x_is_lst_bool, x_is_lst_int, x_is_lst_str, x_is_lst_tuple, x_is_lst_list, x_is_lst_dict, x_is_bl_bool, x_is_bl_int, x_is_bl_str, x_is_bl_tuple, x_is_bl_list, x_is_bl_dict, x_is_non_bool, x_is_non_int, x_is_non_str, x_is_non_tuple, x_is_non_list, x_is_non_dict, x_is_str_bool, x_is_str_int, x_is_str_str, x_is_str_tuple, x_is_str_list, x_is_str_dict, x_ite, x_itm, x_at0, x_at1, x_at2, x_addI, x_subI, x_pow18, x_mod, x_fdiv, x_sq, x_mul, x_mul', x_addT, x_addL, x_gt, x_ge, x_le, x_lt, eqD_int, neD_int, eqD_bool, neD_bool, getS, setS, List.map_cons, List.map_nil, List.length_cons, List.length_nil, List.cons_append, List.nil_append, List.replicate, Option.bind_some, Option.map_some, Option.bind_none, Option.map_none, if_true, if_false, ite_true, ite_false, reduceIte, Nat.reduceAdd, Nat.reduceSub, Nat.reduceLeDiff, Bool.false_eq_true, Nat.reduceEqDiff, Nat.le_refl, LIM, Bool.not_true, Bool.not_false, decide_true, decide_false, decide_eq_true_eq, Int.reduceEq, Int.reduceLT, Int.reduceLE, Int.reduceAdd, Int.reduceSub, Int.reduceNe, Int.reduceNeg, Int.cast_ofNat_Int, ne_eq, not_true_eq_false, not_false_eq_true])
      have e9 : ((tups n d.length).flatMap fun row => (rng n).map fun x => encI (row ++ [x])) = (tups n (d.length + 1)).map encI := by
        show _ = ((tups n d.length).flatMap fun row => (rng n).map fun x => row ++ [x]).map encI
        rw [List.map_flatMap]
        congr 1
        funext row
        rw [List.map_map] <;> rfl
      rw [e9, if_pos (by rw [List.length_map]; exact Nat.le_trans (tups_le n _) h4)]
      rw [List.length_append]
      exact ⟨_, rfl, _, _, _, rfl⟩)
  refine (bind2_of e).trans ?_
  (simp only [x_seq, x_nx, x_rt, x_lnx, x_lct, x_lbk, x_lrt, x_bk, x_ct, x_nil, x_ret, x_set, x_asg, x_new, x_frz, x_if, x_drop, x_for, x_gN, x_gT, x_gsN, x_gsC, x_var, x_vvar, x_c, x_bin, x_un, x_of, x_tru, x_tand, x_tor, x_tnot, x_tT, x_and, x_or, x_not, x_eif, x_aN, x_aC, x_tup, x_lst, x_llst, x_call, x_eL, x_lseq, x_rng1, x_comp, x_comp2, x_app, x_ext, x_frzE, x_f1, x_f2, x_fn, x_start, x_rrt, x_rnx, all_D, any_D, x_bN, x_bC, x_asB, x_asI, x_truB, x_truI, x_seqL, x_seqT, x_lenL, x_lenT, x_tupL, x_tupT, x_int, x_wN, x_wC, x_ixT, x_ixL, x_isi, x_is_int_bool, x_is_int_int, x_is_int_str, x_is_int_tuple, x_is_int_list, x_is_int_dict, x_is_tup_bool, x_is_tup_int, x_is_tup_str, x_is_tup_tuple, x_is_tup_list, x_is_tup_dict, x_is_lst_bool, x_is_lst_int, x_is_lst_str, x_is_lst_tuple, x_is_lst_list, x_is_lst_dict, x_is_bl_bool, x_is_bl_int, x_is_bl_str, x_is_bl_tuple, x_is_bl_list, x_is_bl_dict, x_is_non_bool, x_is_non_int, x_is_non_str, x_is_non_tuple, x_is_non_list, x_is_non_dict, x_is_str_bool, x_is_str_int, x_is_str_str, x_is_str_tuple, x_is_str_list, x_is_str_dict, x_ite, x_itm, x_at0, x_at1, x_at2, x_addI, x_subI, x_pow18, x_mod, x_fdiv, x_sq, x_mul, x_mul', x_addT, x_addL, x_gt, x_ge, x_le, x_lt, eqD_int, neD_int, eqD_bool, neD_bool, getS, setS, List.map_cons, List.map_nil, List.length_cons, List.length_nil, List.cons_append, List.nil_append, List.replicate, Option.bind_some, Option.map_some, Option.bind_none, Option.map_none, if_true, if_false, ite_true, ite_false, reduceIte, Nat.reduceAdd, Nat.reduceSub, Nat.reduceLeDiff, Bool.false_eq_true, Nat.reduceEqDiff, Nat.le_refl, LIM, Bool.not_true, Bool.not_false, decide_true, decide_false, decide_eq_true_eq, Int.reduceEq, Int.reduceLT, Int.reduceLE, Int.reduceAdd, Int.reduceSub, Int.reduceNe, Int.reduceNeg, Int.cast_ofNat_Int, ne_eq, not_true_eq_false, not_false_eq_true])
  rw [len_rng]
theorem ltuples_eval (n s : Nat) (hn : n ≤ 16777216) (hn1 : 1 ≤ n) (hs : s ≤ 100) (hb : n ^ s ≤ 16777216) : m__law_tuples [.int n, .int s] = some (.list ((tups n s).map encI)) := by
  unfold m__law_tuples S__law_tuples
  (simp only [x_seq, x_nx, x_rt, x_lnx, x_lct, x_lbk, x_lrt, x_bk, x_ct, x_nil, x_ret, x_set, x_asg, x_new, x_frz, x_if, x_drop, x_for, x_gN, x_gT, x_gsN, x_gsC, x_var, x_vvar, x_c, x_bin, x_un, x_of, x_tru, x_tand, x_tor, x_tnot, x_tT, x_and, x_or, x_not, x_eif, x_aN, x_aC, x_tup, x_lst, x_llst, x_call, x_eL, x_lseq, x_rng1, x_comp, x_comp2, x_app, x_ext, x_frzE, x_f1, x_f2, x_fn, x_start, x_rrt, x_rnx, all_D, any_D, x_bN, x_bC, x_asB, x_asI, x_truB, x_truI, x_seqL, x_seqT, x_lenL, x_lenT, x_tupL, x_tupT, x_int, x_wN, x_wC, x_ixT, x_ixL, x_isi, x_is_int_bool, x_is_int_int, x_is_int_str, x_is_int_tuple, x_is_int_list, x_is_int_dict, x_is_tup_bool, x_is_tup_int, x_is_tup_str, x_is_tup_tuple, x_is_tup_list, x_is_tup_dict, x_is_lst_bool, x_is_lst_int, x_is_lst_str, x_is_lst_tuple, x_is_lst_list, x_is_lst_dict, x_is_bl_bool, x_is_bl_int, x_is_bl_str, x_is_bl_tuple, x_is_bl_list, x_is_bl_dict, x_is_non_bool, x_is_non_int, x_is_non_str, x_is_non_tuple, x_is_non_list, x_is_non_dict, x_is_str_bool, x_is_str_int, x_is_str_str, x_is_str_tuple, x_is_str_list, x_is_str_dict, x_ite, x_itm, x_at0, x_at1, x_at2, x_addI, x_subI, x_pow18, x_mod, x_fdiv, x_sq, x_mul, x_mul', x_addT, x_addL, x_gt, x_ge, x_le, x_lt, eqD_int, neD_int, eqD_bool, neD_bool, getS, setS, List.map_cons, List.map_nil, List.length_cons, List.length_nil, List.cons_append, List.nil_append, List.replicate, Option.bind_some, Option.map_some, Option.bind_none, Option.map_none, if_true, if_false, ite_true, ite_false, reduceIte, Nat.reduceAdd, Nat.reduceSub, Nat.reduceLeDiff, Bool.false_eq_true, Nat.reduceEqDiff, Nat.le_refl, LIM, Bool.not_true, Bool.not_false, decide_true, decide_false, decide_eq_true_eq, Int.reduceEq, Int.reduceLT, Int.reduceLE, Int.reduceAdd, Int.reduceSub, Int.reduceNe, Int.reduceNeg, Int.cast_ofNat_Int, ne_eq, not_true_eq_false, not_false_eq_true])
  rw [rngD_nat (show s ≤ 16777216 by omega)]
  (simp only [x_seq, x_nx, x_rt, x_lnx, x_lct, x_lbk, x_lrt, x_bk, x_ct, x_nil, x_ret, x_set, x_asg, x_new, x_frz, x_if, x_drop, x_for, x_gN, x_gT, x_gsN, x_gsC, x_var, x_vvar, x_c, x_bin, x_un, x_of, x_tru, x_tand, x_tor, x_tnot, x_tT, x_and, x_or, x_not, x_eif, x_aN, x_aC, x_tup, x_lst, x_llst, x_call, x_eL, x_lseq, x_rng1, x_comp, x_comp2, x_app, x_ext, x_frzE, x_f1, x_f2, x_fn, x_start, x_rrt, x_rnx, all_D, any_D, x_bN, x_bC, x_asB, x_asI, x_truB, x_truI, x_seqL, x_seqT, x_lenL, x_lenT, x_tupL, x_tupT, x_int, x_wN, x_wC, x_ixT, x_ixL, x_isi, x_is_int_bool, x_is_int_int, x_is_int_str, x_is_int_tuple, x_is_int_list, x_is_int_dict, x_is_tup_bool, x_is_tup_int, x_is_tup_str, x_is_tup_tuple, x_is_tup_list, x_is_tup_dict, x_is_lst_bool, x_is_lst_int, x_is_lst_str, x_is_lst_tuple, x_is_lst_list, x_is_lst_dict, x_is_bl_bool, x_is_bl_int, x_is_bl_str, x_is_bl_tuple, x_is_bl_list, x_is_bl_dict, x_is_non_bool, x_is_non_int, x_is_non_str, x_is_non_tuple, x_is_non_list, x_is_non_dict, x_is_str_bool, x_is_str_int, x_is_str_str, x_is_str_tuple, x_is_str_list, x_is_str_dict, x_ite, x_itm, x_at0, x_at1, x_at2, x_addI, x_subI, x_pow18, x_mod, x_fdiv, x_sq, x_mul, x_mul', x_addT, x_addL, x_gt, x_ge, x_le, x_lt, eqD_int, neD_int, eqD_bool, neD_bool, getS, setS, List.map_cons, List.map_nil, List.length_cons, List.length_nil, List.cons_append, List.nil_append, List.replicate, Option.bind_some, Option.map_some, Option.bind_none, Option.map_none, if_true, if_false, ite_true, ite_false, reduceIte, Nat.reduceAdd, Nat.reduceSub, Nat.reduceLeDiff, Bool.false_eq_true, Nat.reduceEqDiff, Nat.le_refl, LIM, Bool.not_true, Bool.not_false, decide_true, decide_false, decide_eq_true_eq, Int.reduceEq, Int.reduceLT, Int.reduceLE, Int.reduceAdd, Int.reduceSub, Int.reduceNe, Int.reduceNeg, Int.cast_ofNat_Int, ne_eq, not_true_eq_false, not_false_eq_true])
  obtain ⟨ρ', e, t3, t4, t5, t6, rfl⟩ := forD_at (gg := gN 3) (S := b__law_tuples_1) PyData.int
    (fun done ρ => ∃ s3 s4 s5 s6, ρ = [.dat (.int n), .dat (.int s), .dat (.list ((tups n done.length).map encI)), s3, s4, s5, s6]) (rng s) [] _ ⟨.un, .un, .un, .un, rfl⟩ (fun d x rest hd ρ ⟨s3, s4, s5, s6, e⟩ => by
      subst e
      rw [List.nil_append] at hd
      have h3 : d.length + 1 ≤ s := by
        have := congrArg List.length hd
        rw [len_rng, List.length_append, List.length_cons] at this
        omega
      have h4 : n ^ (d.length + 1) ≤ 16777216 := Nat.le_trans (Nat.pow_le_pow_right hn1 h3) hb
      refine ⟨_, rfl, ?_⟩
      unfold b__law_tuples_1
      (simp only [x_seq, x_nx, x_rt, x_lnx, x_lct, x_lbk, x_lrt, x_bk, x_ct, x_nil, x_ret, x_set, x_asg, x_new, x_frz, x_if, x_drop, x_for, x_gN, x_gT, x_gsN, x_gsC, x_var, x_vvar, x_c, x_bin, x_un, x_of, x_tru, x_tand, x_tor, x_tnot, x_tT, x_and, x_or, x_not, x_eif, x_aN, x_aC, x_tup, x_lst, x_llst, x_call, x_eL, x_lseq, x_rng1, x_comp, x_comp2, x_app, x_ext, x_frzE, x_f1, x_f2, x_fn, x_start, x_rrt, x_rnx, all_D, any_D, x_bN, x_bC, x_asB, x_asI, x_truB, x_truI, x_seqL, x_seqT, x_lenL, x_lenT, x_tupL, x_tupT, x_int, x_wN, x_wC, x_ixT, x_ixL, x_isi, x_is_int_bool, x_is_int_int, x_is_int_str, x_is_int_tuple, x_is_int_list, x_is_int_dict, x_is_tup_bool, x_is_tup_int, x_is_tup_str, x_is_tup_tuple, x_is_tup_list, x_is_tup_dict, x_is_lst_bool, x_is_lst_int, x_is_lst_str, x_is_lst_tuple, x_is_lst_list, x_is_lst_dict, x_is_bl_bool, x_is_bl_int, x_is_bl_str, x_is_bl_tuple, x_is_bl_list, x_is_bl_dict, x_is_non_bool, x_is_non_int, x_is_non_str, x_is_non_tuple, x_is_non_list, x_is_non_dict, x_is_str_bool, x_is_str_int, x_is_str_str, x_is_str_tuple, x_is_str_list, x_is_str_dict, x_ite, x_itm, x_at0, x_at1, x_at2, x_addI, x_subI, x_pow18, x_mod, x_fdiv, x_sq, x_mul, x_mul', x_addT, x_addL, x_gt, x_ge, x_le, x_lt, eqD_int, neD_int, eqD_bool, neD_bool, getS, setS, List.map_cons, List.map_nil, List.length_cons, List.length_nil, List.cons_append, List.nil_append, List.replicate, Option.bind_some, Option.map_some, Option.bind_none, Option.map_none, if_true, if_false, ite_true, ite_false, reduceIte, Nat.reduceAdd, Nat.reduceSub, Nat.reduceLeDiff, Bool.false_eq_true, Nat.reduceEqDiff, Nat.le_refl, LIM, Bool.not_true, Bool.not_false, decide_true, decide_false, decide_eq_true_eq, Int.reduceEq, Int.reduceLT, Int.reduceLE, Int.reduceAdd, Int.reduceSub, Int.reduceNe, Int.reduceNeg, Int.cast_ofNat_Int, ne_eq, not_true_eq_false, not_false_eq_true])
      obtain ⟨ρ', e, t5, t6, rfl⟩ := forD_at (gg := gN 5) (S := b__law_tuples_0) encI
        (fun done ρ => ∃ s5 s6, ρ = [.dat (.int n), .dat (.int s), .dat (.list ((tups n d.length).map encI)), .dat (.int x), .dat (.list ((done.flatMap fun row => (rng n).map fun x => row ++ [x]).map encI)), s5, s6]) (tups n d.length) [] _ ⟨s5, s6, rfl⟩ (fun d2 row rest2 hd2 ρ ⟨s5, s6, e⟩ => by
          subst e
          rw [List.nil_append] at hd2
          have hrow : row ∈ tups n d.length := by rw [hd2]; exact List.mem_append_right _ List.mem_cons_self
          have h5 : d2.length + 1 ≤ n ^ d.length := by
            have := congrArg List.length hd2
            rw [List.length_append, List.length_cons] at this
            have := tups_le n d.length
            omega
          have h6 := flat_le (fun row => (rng n).map fun x => row ++ [x]) n d2 fun row _ => by
            show ((rng n).map fun x => row ++ [x]).length ≤ n
            rw [List.length_map, len_rng]; exact Nat.le_refl _
          have h7 : (d2.length + 1) * n ≤ n ^ d.length * n := Nat.mul_le_mul_right _ h5
          rw [← Nat.pow_succ, Nat.succ_mul, Nat.succ_eq_add_one] at h7
          refine ⟨_, rfl, ?_⟩
          unfold b__law_tuples_0
          (simp only [x_seq, x_nx, x_rt, x_lnx, x_lct, x_lbk, x_lrt, x_bk, x_ct, x_nil, x_ret, x_set, x_asg, x_new, x_frz, x_if, x_drop, x_for, x_gN, x_gT, x_gsN, x_gsC, x_var, x_vvar, x_c, x_bin, x_un, x_of, x_tru, x_tand, x_tor, x_tnot, x_tT, x_and, x_or, x_not, x_eif, x_aN, x_aC, x_tup, x_lst, x_llst, x_call, x_eL, x_lseq, x_rng1, x_comp, x_comp2, x_app, x_ext, x_frzE, x_f1, x_f2, x_fn, x_start, x_rrt, x_rnx, all_D, any_D, x_bN, x_bC, x_asB, x_asI, x_truB, x_truI, x_seqL, x_seqT, x_lenL, x_lenT, x_tupL, x_tupT, x_int, x_wN, x_wC, x_ixT, x_ixL, x_isi, x_is_int_bool, x_is_int_int, x_is_int_str, x_is_int_tuple, x_is_int_list, x_is_int_dict, x_is_tup_bool, x_is_tup_int, x_is_tup_str, x_is_tup_tuple, x_is_tup_list, x_is_tup_dict, x_is_lst_bool, x_is_lst_int, x_is_lst_str, x_is_lst_tuple, x_is_lst_list, x_is_lst_dict, x_is_bl_bool, x_is_bl_int, x_is_bl_str, x_is_bl_tuple, x_is_bl_list, x_is_bl_dict, x_is_non_bool, x_is_non_int, x_is_non_str, x_is_non_tuple, x_is_non_list, x_is_non_dict, x_is_str_bool, x_is_str_int, x_is_str_str, x_is_str_tuple, x_is_str_list, x_is_str_dict, x_ite, x_itm, x_at0, x_at1, x_at2, x_addI, x_subI, x_pow18, x_mod, x_fdiv, x_sq, x_mul, x_mul', x_addT, x_addL, x_gt, x_ge, x_le, x_lt, eqD_int, neD_int, eqD_bool, neD_bool, getS, setS, List.map_cons, List.map_nil, List.length_cons, List.length_nil, List.cons_append, List.nil_append, List.replicate, Option.bind_some, Option.map_some, Option.bind_none, Option.map_none, if_true, if_false, ite_true, ite_false, reduceIte, Nat.reduceAdd, Nat.reduceSub, Nat.reduceLeDiff, Bool.false_eq_true, Nat.reduceEqDiff, Nat.le_refl, LIM, Bool.not_true, Bool.not_false, decide_true, decide_false, decide_eq_true_eq, Int.reduceEq, Int.reduceLT, Int.reduceLE, Int.reduceAdd, Int.reduceSub, Int.reduceNe, Int.reduceNeg, Int.cast_ofNat_Int, ne_eq, not_true_eq_false, not_false_eq_true])
          rw [rngD_nat hn]
          (simp only [x_seq, x_nx, x_rt, x_lnx, x_lct, x_lbk, x_lrt, x_bk, x_ct, x_nil, x_ret, x_set, x_asg, x_new, x_frz, x_if, x_drop, x_for, x_gN, x_gT, x_gsN, x_gsC, x_var, x_vvar, x_c, x_bin, x_un, x_of, x_tru, x_tand, x_tor, x_tnot, x_tT, x_and, x_or, x_not, x_eif, x_aN, x_aC, x_tup, x_lst, x_llst, x_call, x_eL, x_lseq, x_rng1, x_comp, x_comp2, x_app, x_ext, x_frzE, x_f1, x_f2, x_fn, x_start, x_rrt, x_rnx, all_D, any_D, x_bN, x_bC, x_asB, x_asI, x_truB, x_truI, x_seqL, x_seqT, x_lenL, x_lenT, x_tupL, x_tupT, x_int, x_wN, x_wC, x_ixT, x_ixL, x_isi, x_is_int_bool, x_is_int_int, x_is_int_str, x_is_int_tuple, x_is_int_list, x_is_int_dict, x_is_tup_bool, x_is_tup_int, x_is_tup_str, x_is_tup_tuple, x_is_tup_list, x_is_tup_dict, x_is_lst_bool, x_is_lst_int, x_is_lst_str, x_is_lst_tuple, x_is_lst_list, x_is_lst_dict, x_is_bl_bool, x_is_bl_int, x_is_bl_str, x_is_bl_tuple, x_is_bl_list, x_is_bl_dict, x_is_non_bool, x_is_non_int, x_is_non_str, x_is_non_tuple, x_is_non_list, x_is_non_dict, x_is_str_bool, x_is_str_int, x_is_str_str, x_is_str_tuple, x_is_str_list, x_is_str_dict, x_ite, x_itm, x_at0, x_at1, x_at2, x_addI, x_subI, x_pow18, x_mod, x_fdiv, x_sq, x_mul, x_mul', x_addT, x_addL, x_gt, x_ge, x_le, x_lt, eqD_int, neD_int, eqD_bool, neD_bool, getS, setS, List.map_cons, List.map_nil, List.length_cons, List.length_nil, List.cons_append, List.nil_append, List.replicate, Option.bind_some, Option.map_some, Option.bind_none, Option.map_none, if_true, if_false, ite_true, ite_false, reduceIte, Nat.reduceAdd, Nat.reduceSub, Nat.reduceLeDiff, Bool.false_eq_true, Nat.reduceEqDiff, Nat.le_refl, LIM, Bool.not_true, Bool.not_false, decide_true, decide_false, decide_eq_true_eq, Int.reduceEq, Int.reduceLT, Int.reduceLE, Int.reduceAdd, Int.reduceSub, Int.reduceNe, Int.reduceNeg, Int.cast_ofNat_Int, ne_eq, not_true_eq_false, not_false_eq_true])
          rw [compD_all PyData.int (fun x => encI (row ++ [x])) (rng n) fun x hx => ⟨_, rfl, by
            unfold encI
            (simp only [x_seq, x_nx, x_rt, x_lnx, x_lct, x_lbk, x_lrt, x_bk, x_ct, x_nil, x_ret, x_set, x_asg, x_new, x_frz, x_if, x_drop, x_for, x_gN, x_gT, x_gsN, x_gsC, x_var, x_vvar, x_c, x_bin, x_un, x_of, x_tru, x_tand, x_tor, x_tnot, x_tT, x_and, x_or, x_not, x_eif, x_aN, x_aC, x_tup, x_lst, x_llst, x_call, x_eL, x_lseq, x_rng1, x_comp, x_comp2, x_app, x_ext, x_frzE, x_f1, x_f2, x_fn, x_start, x_rrt, x_rnx, all_D, any_D, x_bN, x_bC, x_asB, x_asI, x_truB, x_truI, x_seqL, x_seqT, x_lenL, x_lenT, x_tupL, x_tupT, x_int, x_wN, x_wC, x_ixT, x_ixL, x_isi, x_is_int_bool, x_is_int_int, x_is_int_str, x_is_int_tuple, x_is_int_list, x_is_int_dict, x_is_tup_bool, x_is_tup_int, x_is_tup_str, x_is_tup_tuple, x_is_tup_list, x_is_tup_dict, x_is_lst_bool, x_is_lst_int, x_is_lst_str, x_is_lst_tuple, x_is_lst_list, x_is_lst_dict, x_is_bl_bool, x_is_bl_int, x_is_bl_str, x_is_bl_tuple, x_is_bl_list, x_is_bl_dict, x_is_non_bool, x_is_non_int, x_is_non_str, x_is_non_tuple, x_is_non_list, x_is_non_dict, x_is_str_bool, x_is_str_int, x_is_str_str, x_is_str_tuple, x_is_str_list, x_is_str_dict, x_ite, x_itm, x_at0, x_at1, x_at2, x_addI, x_subI, x_pow18, x_mod, x_fdiv, x_sq, x_mul, x_mul', x_addT, x_addL, x_gt, x_ge, x_le, x_lt, eqD_int, neD_int, eqD_bool, neD_bool, getS, setS, List.map_cons, List.map_nil, List.length_cons, List.length_nil, List.cons_append, List.nil_append, List.replicate, Option.bind_some, Option.map_some, Option.bind_none, Option.map_none, if_true, if_false, ite_true, ite_false, reduceIte, Nat.reduceAdd, Nat.reduceSub, Nat.reduceLeDiff, Bool.false_eq_true, Nat.reduceEqDiff, Nat.le_refl, LIM, Bool.not_true, Bool.not_false, decide_true, decide_false, decide_eq_true_eq, Int.reduceEq, Int.reduceLT, Int.reduceLE, Int.reduceAdd, Int.reduceSub, Int.reduceNe, Int.reduceNeg, Int.cast_ofNat_Int, ne_eq, not_true_eq_false, not_false_eq_true])
            have := tups_len n _ row hrow
            rw [if_pos (by rw [List.length_map]; omega), List.map_append]
            rfl⟩]
          (simp only [x_seq, x_nx, x_rt, x_lnx, x_lct, x_lbk, x_lrt, x_bk, x_ct, x_nil, x_ret, x_set, x_asg, x_new, x_frz, x_if, x_drop, x_for, x_gN, x_gT, x_gsN, x_gsC, x_var, x_vvar, x_c, x_bin, x_un, x_of, x_tru, x_tand, x_tor, x_tnot, x_tT, x_and, x_or, x_not, x_eif, x_aN, x_aC, x_tup, x_lst, x_llst, x_call, x_eL, x_lseq, x_rng1, x_comp, x_comp2, x_app, x_ext, x_frzE, x_f1, x_f2, x_fn, x_start, x_rrt, x_rnx, all_D, any_D, x_bN, x_bC, x_asB, x_asI, x_truB, x_truI, x_seqL, x_seqT, x_lenL, x_lenT, x_tupL, x_tupT, x_int, x_wN, x_wC, x_ixT, x_ixL, x_isi, x_is_int_bool, x_is_int_int, x_is_int_str, x_is_int_tuple, x_is_int_list, x_is_int_dict, x_is_tup_bool, x_is_tup_int, x_is_tup_str, x_is_tup_tuple, x_is_tup_list, x_is_tup_dict, x_is_lst_bool, x_is_lst_int, x_is_lst_str, x_is_lst_tuple, x_is_lst_list, x_is_lst_dict, x_is_bl_bool, x_is_bl_int, x_is_bl_str, x_is_bl_tuple, x_is_bl_list, x_is_bl_dict, x_is_non_bool, x_is_non_int, x_is_non_str, x_is_non_tuple, x_is_non_list, x_is_non_dict, x_is_str_bool, x_is_str_int, x_is_str_str, x_is_str_tuple, x_is_str_list, x_is_str_dict, x_ite, x_itm, x_at0, x_at1, x_at2, x_addI, x_subI, x_pow18, x_mod, x_fdiv, x_sq, x_mul, x_mul', x_addT, x_addL, x_gt, x_ge, x_le, x_lt, eqD_int, neD_int, eqD_bool, neD_bool, getS, setS, List.map_cons, List.map_nil, List.length_cons, List.length_nil, List.cons_append, List.nil_append, List.replicate, Option.bind_some, Option.map_some, Option.bind_none, Option.map_none, if_true, if_false, ite_true, ite_false, reduceIte, Nat.reduceAdd, Nat.reduceSub, Nat.reduceLeDiff, Bool.false_eq_true, Nat.reduceEqDiff, Nat.le_refl, LIM, Bool.not_true, Bool.not_false, decide_true, decide_false, decide_eq_true_eq, Int.reduceEq, Int.reduceLT, Int.reduceLE, Int.reduceAdd, Int.reduceSub, Int.reduceNe, Int.reduceNeg, Int.cast_ofNat_Int, ne_eq, not_true_eq_false, not_false_eq_true])
          rw [if_pos (by rw [List.length_map, List.length_map, len_rng]; omega), List.flatMap_append, List.flatMap_cons, List.flatMap_nil, List.append_nil, List.map_append, List.map_map (f := fun x => row ++ [x])]
          exact ⟨_, rfl, _, _, rfl⟩)
      rw [List.flatMap_nil, List.map_nil] at e
      rw [e]
      (simp only [x_seq, x_nx, x_rt, x_lnx, x_lct, x_lbk, x_lrt, x_bk, x_ct, x_nil, x_ret, x_set, x_asg, x_new, x_frz, x_if, x_drop, x_for, x_gN, x_gT, x_gsN, x_gsC, x_var, x_vvar, x_c, x_bin, x_un, x_of, x_tru, x_tand, x_tor, x_tnot, x_tT, x_and, x_or, x_not, x_eif, x_aN, x_aC, x_tup, x_lst, x_llst, x_call, x_eL, x_lseq, x_rng1, x_comp, x_comp2, x_app, x_ext, x_frzE, x_f1, x_f2, x_fn, x_start, x_rrt, x_rnx, all_D, any_D, x_bN, x_bC, x_asB, x_asI, x_truB, x_truI, x_seqL, x_seqT, x_lenL, x_lenT, x_tupL, x_tupT, x_int, x_wN, x_wC, x_ixT, x_ixL, x_isi, x_is_int_bool, x_is_int_int, x_is_int_str, x_is_int_tuple, x_is_int_list, x_is_int_dict, x_is_tup_bool, x_is_tup_int, x_is_tup_str, x_is_tup_tuple, x_is_tup_list, x_is_tup_dict, x_is_lst_bool, x_is_lst_int, x_is_lst_str, x_is_lst_tuple, x_is_lst_list, x_is_lst_dict, x_is_bl_bool, x_is_bl_int, x_is_bl_str, x_is_bl_tuple, x_is_bl_list, x_is_bl_dict, x_is_non_bool, x_is_non_int, x_is_non_str, x_is_non_tuple, x_is_non_list, x_is_non_dict, x_is_str_bool, x_is_str_int, x_is_str_str, x_is_str_tuple, x_is_str_list, x_is_str_dict, x_ite, x_itm, x_at0, x_at1, x_at2, x_addI, x_subI, x_pow18, x_mod, x_fdiv, x_sq, x_mul, x_mul', x_addT, x_addL, x_gt, x_ge, x_le, x_lt, eqD_int, neD_int, eqD_bool, neD_bool, getS, setS, List.map_cons, List.map_nil, List.length_cons, List.length_nil, List.cons_append, List.nil_append, List.replicate, Option.bind_some, Option.map_some, Option.bind_none, Option.map_none, if_true, if_false, ite_true, ite_false, reduceIte, Nat.reduceAdd, Nat.reduceSub, Nat.reduceLeDiff, Bool.false_eq_true, Nat.reduceEqDiff, Nat.le_refl, LIM, Bool.not_true, Bool.not_false, decide_true, decide_false, decide_eq_true_eq, Int.reduceEq, Int.reduceLT, Int.reduceLE, Int.reduceAdd, Int.reduceSub, Int.reduceNe, Int.reduceNeg, Int.cast_ofNat_Int, ne_eq, not_true_eq_false, not_false_eq_true])
      rw [List.length_append]
      exact ⟨_, rfl, _, _, _, _, rfl⟩)
  refine (bind2_of e).trans ?_
  (simp only [x_seq, x_nx, x_rt, x_lnx, x_lct, x_lbk, x_lrt, x_bk, x_ct, x_nil, x_ret, x_set, x_asg, x_new, x_frz, x_if, x_drop, x_for, x_gN, x_gT, x_gsN, x_gsC, x_var, x_vvar, x_c, x_bin, x_un, x_of, x_tru, x_tand, x_tor, x_tnot, x_tT, x_and, x_or, x_not, x_eif, x_aN, x_aC, x_tup, x_lst, x_llst, x_call, x_eL, x_lseq, x_rng1, x_comp, x_comp2, x_app, x_ext, x_frzE, x_f1, x_f2, x_fn, x_start, x_rrt, x_rnx, all_D, any_D, x_bN, x_bC, x_asB, x_asI, x_truB, x_truI, x_seqL, x_seqT, x_lenL, x_lenT, x_tupL, x_tupT, x_int, x_wN, x_wC, x_ixT, x_ixL, x_isi, x_is_int_bool, x_is_int_int, x_is_int_str, x_is_int_tuple, x_is_int_list, x_is_int_dict, x_is_tup_bool, x_is_tup_int, x_is_tup_str, x_is_tup_tuple, x_is_tup_list, x_is_tup_dict, x_is_lst_bool, x_is_lst_int, x_is_lst_str, x_is_lst_tuple, x_is_lst_list, x_is_lst_dict, x_is_bl_bool, x_is_bl_int, x_is_bl_str, x_is_bl_tuple, x_is_bl_list, x_is_bl_dict, x_is_non_bool, x_is_non_int, x_is_non_str, x_is_non_tuple, x_is_non_list, x_is_non_dict, x_is_str_bool, x_is_str_int, x_is_str_str, x_is_str_tuple, x_is_str_list, x_is_str_dict, x_ite, x_itm, x_at0, x_at1, x_at2, x_addI, x_subI, x_pow18, x_mod, x_fdiv, x_sq, x_mul, x_mul', x_addT, x_addL, x_gt, x_ge, x_le, x_lt, eqD_int, neD_int, eqD_bool, neD_bool, getS, setS, List.map_cons, List.map_nil, List.length_cons, List.length_nil, List.cons_append, List.nil_append, List.replicate, Option.bind_some, Option.map_some, Option.bind_none, Option.map_none, if_true, if_false, ite_true, ite_false, reduceIte, Nat.reduceAdd, Nat.reduceSub, Nat.reduceLeDiff, Bool.false_eq_true, Nat.reduceEqDiff, Nat.le_refl, LIM, Bool.not_true, Bool.not_false, decide_true, decide_false, decide_eq_true_eq, Int.reduceEq, Int.reduceLT, Int.reduceLE, Int.reduceAdd, Int.reduceSub, Int.reduceNe, Int.reduceNeg, Int.cast_ofNat_Int, ne_eq, not_true_eq_false, not_false_eq_true])
  rw [len_rng]
/-! ### sorted rows, each once -/
theorem snoc_ind {α : Type} {P : List α → Prop} (h0 : P []) (hs : ∀ l x, P l → P (l ++ [x])) (l : List α) : P l := by
  have h : ∀ r : List α, P r.reverse := fun r => by
    induction r with
    | nil => exact h0
    | cons x r ih => rw [List.reverse_cons]; exact hs _ _ ih
  have := h l.reverse
  rwa [List.reverse_reverse] at this
section
variable {α : Type} [DecidableEq α]
/-- each one once, the first kept -/
def dd (l : List α) : List α := l.foldl (fun acc x => if has x acc = true then acc else acc ++ [x]) []
theorem dd_snoc (l : List α) (x : α) : dd (l ++ [x]) = if has x (dd l) = true then dd l else dd l ++ [x] := by
  unfold dd
  rw [List.foldl_append] <;> rfl
theorem dd_mem (l : List α) : ∀ x : α, x ∈ dd l ↔ x ∈ l := by
  induction l using snoc_ind with
  | h0 => exact fun x => Iff.rfl
  | hs l y ih =>
    intro x
    rw [dd_snoc]
    split
    · rename_i h
      have hy : y ∈ l := (ih y).mp (has_iff.mp h)
      rw [ih, List.mem_append, List.mem_singleton]
      exact ⟨.inl, fun q => q.elim id fun e => by rw [e]; exact hy⟩
    · rw [List.mem_append, List.mem_append, ih]
theorem dd_nodup (l : List α) : (dd l).Nodup := by
  induction l using snoc_ind with
  | h0 => exact List.nodup_nil
  | hs l y ih =>
    rw [dd_snoc]
    split
    · exact ih
    · rename_i h
      refine List.nodup_append.mpr ⟨ih, List.nodup_cons.mpr ⟨by simp, List.nodup_nil⟩, fun a ha b hb e => ?_⟩
      rw [List.mem_singleton.mp hb] at e
      rw [e] at ha
      exact h (has_iff.mpr ha)
theorem dd_sub (l : List α) : (dd l).Sublist l := by
  induction l using snoc_ind with
  | h0 => exact List.Sublist.refl _
  | hs l y ih =>
    rw [dd_snoc]
    split
    · exact ih.trans (List.sublist_append_left _ _)
    · exact ih.append (List.Sublist.refl _)
theorem dd_le (l : List α) : (dd l).length ≤ l.length := (dd_sub l).length_le
/-- where p tells the first of each kind -/
theorem dd_filter {β : Type} (g : β → α) (p : β → Bool) (T : List β) (h1 : ∀ d x r, T = d ++ x :: r → p x = true → g x ∉ d.map g) (h2 : ∀ d x r, T = d ++ x :: r → p x = false → g x ∈ d.map g) : dd (T.map g) = (T.filter p).map g := by
  have h : ∀ d r, T = d ++ r → dd (d.map g) = (d.filter p).map g := fun d => by
    induction d using snoc_ind with
    | h0 => exact fun _ _ => rfl
    | hs d x ih =>
      intro r e
      have e' : T = d ++ x :: r := by rw [e, List.append_assoc]; rfl
      have ihd := ih (x :: r) e'
      rw [List.map_append, List.map_cons, List.map_nil, dd_snoc, List.filter_append, List.map_append]
      cases hp : p x
      · have q := h2 d x r e' hp
        rw [if_pos (has_iff.mpr ((dd_mem _ _).mpr q)), ihd, List.filter_cons, hp]
        simp
      · have q := h1 d x r e' hp
        rw [if_neg fun z => q ((dd_mem _ _).mp (has_iff.mp z)), ihd, List.filter_cons, hp]
        simp
  exact h T [] (by rw [List.append_nil])
end
section
variable {α : Type} [DecidableEq α] [Enc α]
theorem sorted_one {l m : List α} (hl : l.Pairwise fun a b => leO a b = true) (hm : m.Pairwise fun a b => leO a b = true) (nl : l.Nodup) (nm : m.Nodup) (h : ∀ x, x ∈ l ↔ x ∈ m) : l = m :=
  List.Perm.eq_of_pairwise (le := fun a b : α => leO a b = true) (fun a b _ _ h1 h2 => leO_anti h1 h2) hl hm ((List.perm_ext_iff_of_nodup nl nm).mpr h)
theorem unlike_eval (xs : List α) (ht : (∀ a : α, isTup (toD a) = true) ∨ ∀ a : α, isTup (toD a) = false) (hx : xs.length ≤ 16777215) : m__law_unlike [.list (xs.map toD)] = some (.tuple ((dd (srt xs)).map toD)) := by
  unfold m__law_unlike S__law_unlike
  (simp only [x_seq, x_nx, x_rt, x_lnx, x_lct, x_lbk, x_lrt, x_bk, x_ct, x_nil, x_ret, x_set, x_asg, x_new, x_frz, x_if, x_drop, x_for, x_gN, x_gT, x_gsN, x_gsC, x_var, x_vvar, x_c, x_bin, x_un, x_of, x_tru, x_tand, x_tor, x_tnot, x_tT, x_and, x_or, x_not, x_eif, x_aN, x_aC, x_tup, x_lst, x_llst, x_call, x_eL, x_lseq, x_rng1, x_comp, x_comp2, x_app, x_ext, x_frzE, x_f1, x_f2, x_fn, x_start, x_rrt, x_rnx, all_D, any_D, x_bN, x_bC, x_asB, x_asI, x_truB, x_truI, x_seqL, x_seqT, x_lenL, x_lenT, x_tupL, x_tupT, x_int, x_wN, x_wC, x_ixT, x_ixL, x_isi, x_is_int_bool, x_is_int_int, x_is_int_str, x_is_int_tuple, x_is_int_list, x_is_int_dict, x_is_tup_bool, x_is_tup_int, x_is_tup_str, x_is_tup_tuple, x_is_tup_list, x_is_tup_dict, x_is_lst_bool, x_is_lst_int, x_is_lst_str, x_is_lst_tuple, x_is_lst_list, x_is_lst_dict, x_is_bl_bool, x_is_bl_int, x_is_bl_str, x_is_bl_tuple, x_is_bl_list, x_is_bl_dict, x_is_non_bool, x_is_non_int, x_is_non_str, x_is_non_tuple, x_is_non_list, x_is_non_dict, x_is_str_bool, x_is_str_int, x_is_str_str, x_is_str_tuple, x_is_str_list, x_is_str_dict, x_ite, x_itm, x_at0, x_at1, x_at2, x_addI, x_subI, x_pow18, x_mod, x_fdiv, x_sq, x_mul, x_mul', x_addT, x_addL, x_gt, x_ge, x_le, x_lt, eqD_int, neD_int, eqD_bool, neD_bool, getS, setS, List.map_cons, List.map_nil, List.length_cons, List.length_nil, List.cons_append, List.nil_append, List.replicate, Option.bind_some, Option.map_some, Option.bind_none, Option.map_none, if_true, if_false, ite_true, ite_false, reduceIte, Nat.reduceAdd, Nat.reduceSub, Nat.reduceLeDiff, Bool.false_eq_true, Nat.reduceEqDiff, Nat.le_refl, LIM, Bool.not_true, Bool.not_false, decide_true, decide_false, decide_eq_true_eq, Int.reduceEq, Int.reduceLT, Int.reduceLE, Int.reduceAdd, Int.reduceSub, Int.reduceNe, Int.reduceNeg, Int.cast_ofNat_Int, ne_eq, not_true_eq_false, not_false_eq_true])
  rw [sort_DL xs ht]
  (simp only [x_seq, x_nx, x_rt, x_lnx, x_lct, x_lbk, x_lrt, x_bk, x_ct, x_nil, x_ret, x_set, x_asg, x_new, x_frz, x_if, x_drop, x_for, x_gN, x_gT, x_gsN, x_gsC, x_var, x_vvar, x_c, x_bin, x_un, x_of, x_tru, x_tand, x_tor, x_tnot, x_tT, x_and, x_or, x_not, x_eif, x_aN, x_aC, x_tup, x_lst, x_llst, x_call, x_eL, x_lseq, x_rng1, x_comp, x_comp2, x_app, x_ext, x_frzE, x_f1, x_f2, x_fn, x_start, x_rrt, x_rnx, all_D, any_D, x_bN, x_bC, x_asB, x_asI, x_truB, x_truI, x_seqL, x_seqT, x_lenL, x_lenT, x_tupL, x_tupT, x_int, x_wN, x_wC, x_ixT, x_ixL, x_isi, x_is_int_bool, x_is_int_int, x_is_int_str, x_is_int_tuple, x_is_int_list, x_is_int_dict, x_is_tup_bool, x_is_tup_int, x_is_tup_str, x_is_tup_tuple, x_is_tup_list, x_is_tup_dict, x_is_lst_bool, x_is_lst_int, x_is_lst_str, x_is_lst_tuple, x_is_lst_list, x_is_lst_dict, x_is_bl_bool, x_is_bl_int, x_is_bl_str, x_is_bl_tuple, x_is_bl_list, x_is_bl_dict, x_is_non_bool, x_is_non_int, x_is_non_str, x_is_non_tuple, x_is_non_list, x_is_non_dict, x_is_str_bool, x_is_str_int, x_is_str_str, x_is_str_tuple, x_is_str_list, x_is_str_dict, x_ite, x_itm, x_at0, x_at1, x_at2, x_addI, x_subI, x_pow18, x_mod, x_fdiv, x_sq, x_mul, x_mul', x_addT, x_addL, x_gt, x_ge, x_le, x_lt, eqD_int, neD_int, eqD_bool, neD_bool, getS, setS, List.map_cons, List.map_nil, List.length_cons, List.length_nil, List.cons_append, List.nil_append, List.replicate, Option.bind_some, Option.map_some, Option.bind_none, Option.map_none, if_true, if_false, ite_true, ite_false, reduceIte, Nat.reduceAdd, Nat.reduceSub, Nat.reduceLeDiff, Bool.false_eq_true, Nat.reduceEqDiff, Nat.le_refl, LIM, Bool.not_true, Bool.not_false, decide_true, decide_false, decide_eq_true_eq, Int.reduceEq, Int.reduceLT, Int.reduceLE, Int.reduceAdd, Int.reduceSub, Int.reduceNe, Int.reduceNeg, Int.cast_ofNat_Int, ne_eq, not_true_eq_false, not_false_eq_true])
  obtain ⟨ρ', e, t2, rfl⟩ := forD_at (gg := gN 2) (S := b__law_unlike_0) (toD : α → D)
    (fun done ρ => ∃ s2, ρ = [.dat (.list (xs.map toD)), .own ((dd done).map toD), s2]) (srt xs) [] _ ⟨.un, rfl⟩ (fun d x rest hd ρ ⟨s2, e⟩ => by
      subst e
      rw [List.nil_append] at hd
      refine ⟨_, rfl, ?_⟩
      unfold b__law_unlike_0
      (simp only [x_seq, x_nx, x_rt, x_lnx, x_lct, x_lbk, x_lrt, x_bk, x_ct, x_nil, x_ret, x_set, x_asg, x_new, x_frz, x_if, x_drop, x_for, x_gN, x_gT, x_gsN, x_gsC, x_var, x_vvar, x_c, x_bin, x_un, x_of, x_tru, x_tand, x_tor, x_tnot, x_tT, x_and, x_or, x_not, x_eif, x_aN, x_aC, x_tup, x_lst, x_llst, x_call, x_eL, x_lseq, x_rng1, x_comp, x_comp2, x_app, x_ext, x_frzE, x_f1, x_f2, x_fn, x_start, x_rrt, x_rnx, all_D, any_D, x_bN, x_bC, x_asB, x_asI, x_truB, x_truI, x_seqL, x_seqT, x_lenL, x_lenT, x_tupL, x_tupT, x_int, x_wN, x_wC, x_ixT, x_ixL, x_isi, x_is_int_bool, x_is_int_int, x_is_int_str, x_is_int_tuple, x_is_int_list, x_is_int_dict, x_is_tup_bool, x_is_tup_int, x_is_tup_str, x_is_tup_tuple, x_is_tup_list, x_is_tup_dict, x_is_lst_bool, x_is_lst_int, x_is_lst_str, x_is_lst_tuple, x_is_lst_list, x_is_lst_dict, x_is_bl_bool, x_is_bl_int, x_is_bl_str, x_is_bl_tuple, x_is_bl_list, x_is_bl_dict, x_is_non_bool, x_is_non_int, x_is_non_str, x_is_non_tuple, x_is_non_list, x_is_non_dict, x_is_str_bool, x_is_str_int, x_is_str_str, x_is_str_tuple, x_is_str_list, x_is_str_dict, x_ite, x_itm, x_at0, x_at1, x_at2, x_addI, x_subI, x_pow18, x_mod, x_fdiv, x_sq, x_mul, x_mul', x_addT, x_addL, x_gt, x_ge, x_le, x_lt, eqD_int, neD_int, eqD_bool, neD_bool, getS, setS, List.map_cons, List.map_nil, List.length_cons, List.length_nil, List.cons_append, List.nil_append, List.replicate, Option.bind_some, Option.map_some, Option.bind_none, Option.map_none, if_true, if_false, ite_true, ite_false, reduceIte, Nat.reduceAdd, Nat.reduceSub, Nat.reduceLeDiff, Bool.false_eq_true, Nat.reduceEqDiff, Nat.le_refl, LIM, Bool.not_true, Bool.not_false, decide_true, decide_false, decide_eq_true_eq, Int.reduceEq, Int.reduceLT, Int.reduceLE, Int.reduceAdd, Int.reduceSub, Int.reduceNe, Int.reduceNeg, Int.cast_ofNat_Int, ne_eq, not_true_eq_false, not_false_eq_true])
      rw [show notInD (toD x) (.list ((dd d).map toD)) = some (.bool (!has x (dd d))) by unfold notInD; rw [mem_L]; rfl]
      (simp only [x_seq, x_nx, x_rt, x_lnx, x_lct, x_lbk, x_lrt, x_bk, x_ct, x_nil, x_ret, x_set, x_asg, x_new, x_frz, x_if, x_drop, x_for, x_gN, x_gT, x_gsN, x_gsC, x_var, x_vvar, x_c, x_bin, x_un, x_of, x_tru, x_tand, x_tor, x_tnot, x_tT, x_and, x_or, x_not, x_eif, x_aN, x_aC, x_tup, x_lst, x_llst, x_call, x_eL, x_lseq, x_rng1, x_comp, x_comp2, x_app, x_ext, x_frzE, x_f1, x_f2, x_fn, x_start, x_rrt, x_rnx, all_D, any_D, x_bN, x_bC, x_asB, x_asI, x_truB, x_truI, x_seqL, x_seqT, x_lenL, x_lenT, x_tupL, x_tupT, x_int, x_wN, x_wC, x_ixT, x_ixL, x_isi, x_is_int_bool, x_is_int_int, x_is_int_str, x_is_int_tuple, x_is_int_list, x_is_int_dict, x_is_tup_bool, x_is_tup_int, x_is_tup_str, x_is_tup_tuple, x_is_tup_list, x_is_tup_dict, x_is_lst_bool, x_is_lst_int, x_is_lst_str, x_is_lst_tuple, x_is_lst_list, x_is_lst_dict, x_is_bl_bool, x_is_bl_int, x_is_bl_str, x_is_bl_tuple, x_is_bl_list, x_is_bl_dict, x_is_non_bool, x_is_non_int, x_is_non_str, x_is_non_tuple, x_is_non_list, x_is_non_dict, x_is_str_bool, x_is_str_int, x_is_str_str, x_is_str_tuple, x_is_str_list, x_is_str_dict, x_ite, x_itm, x_at0, x_at1, x_at2, x_addI, x_subI, x_pow18, x_mod, x_fdiv, x_sq, x_mul, x_mul', x_addT, x_addL, x_gt, x_ge, x_le, x_lt, eqD_int, neD_int, eqD_bool, neD_bool, getS, setS, List.map_cons, List.map_nil, List.length_cons, List.length_nil, List.cons_append, List.nil_append, List.replicate, Option.bind_some, Option.map_some, Option.bind_none, Option.map_none, if_true, if_false, ite_true, ite_false, reduceIte, Nat.reduceAdd, Nat.reduceSub, Nat.reduceLeDiff, Bool.false_eq_true, Nat.reduceEqDiff, Nat.le_refl, LIM, Bool.not_true, Bool.not_false, decide_true, decide_false, decide_eq_true_eq, Int.reduceEq, Int.reduceLT, Int.reduceLE, Int.reduceAdd, Int.reduceSub, Int.reduceNe, Int.reduceNeg, Int.cast_ofNat_Int, ne_eq, not_true_eq_false, not_false_eq_true])
      have h3 : d.length + 1 ≤ xs.length := by
        have := congrArg List.length hd
        rw [(srt_perm xs).length_eq, List.length_append, List.length_cons] at this
        omega
      have h4 := dd_le d
      rw [dd_snoc]
      cases hh : has x (dd d)
      · rw [if_pos (by rfl), if_pos (by rw [List.length_map]; omega), if_neg (by simp), List.map_append]
        exact ⟨_, rfl, _, rfl⟩
      · rw [if_neg (by simp), if_pos rfl]
        exact ⟨_, rfl, _, rfl⟩)
  refine (bind2_of e).trans ?_
  (simp only [x_seq, x_nx, x_rt, x_lnx, x_lct, x_lbk, x_lrt, x_bk, x_ct, x_nil, x_ret, x_set, x_asg, x_new, x_frz, x_if, x_drop, x_for, x_gN, x_gT, x_gsN, x_gsC, x_var, x_vvar, x_c, x_bin, x_un, x_of, x_tru, x_tand, x_tor, x_tnot, x_tT, x_and, x_or, x_not, x_eif, x_aN, x_aC, x_tup, x_lst, x_llst, x_call, x_eL, x_lseq, x_rng1, x_comp, x_comp2, x_app, x_ext, x_frzE, x_f1, x_f2, x_fn, x_start, x_rrt, x_rnx, all_D, any_D, x_bN, x_bC, x_asB, x_asI, x_truB, x_truI, x_seqL, x_seqT, x_lenL, x_lenT, x_tupL, x_tupT, x_int, x_wN, x_wC, x_ixT, x_ixL, x_isi, x_is_int_bool, x_is_int_int, x_is_int_str, x_is_int_tuple, x_is_int_list, x_is_int_dict, x_is_tup_bool, x_is_tup_int, x_is_tup_str, x_is_tup_tuple, x_is_tup_list, x_is_tup_dict, x_is_lst_bool, x_is_lst_int, x_is_lst_str, x_is_lst_tuple, x_is_lst_list, x_is_lst_dict, x_is_bl_bool, x_is_bl_int, x_is_bl_str, x_is_bl_tuple, x_is_bl_list, x_is_bl_dict, x_is_non_bool, x_is_non_int, x_is_non_str, x_is_non_tuple, x_is_non_list, x_is_non_dict, x_is_str_bool, x_is_str_int, x_is_str_str, x_is_str_tuple, x_is_str_list, x_is_str_dict, x_ite, x_itm, x_at0, x_at1, x_at2, x_addI, x_subI, x_pow18, x_mod, x_fdiv, x_sq, x_mul, x_mul', x_addT, x_addL, x_gt, x_ge, x_le, x_lt, eqD_int, neD_int, eqD_bool, neD_bool, getS, setS, List.map_cons, List.map_nil, List.length_cons, List.length_nil, List.cons_append, List.nil_append, List.replicate, Option.bind_some, Option.map_some, Option.bind_none, Option.map_none, if_true, if_false, ite_true, ite_false, reduceIte, Nat.reduceAdd, Nat.reduceSub, Nat.reduceLeDiff, Bool.false_eq_true, Nat.reduceEqDiff, Nat.le_refl, LIM, Bool.not_true, Bool.not_false, decide_true, decide_false, decide_eq_true_eq, Int.reduceEq, Int.reduceLT, Int.reduceLE, Int.reduceAdd, Int.reduceSub, Int.reduceNe, Int.reduceNeg, Int.cast_ofNat_Int, ne_eq, not_true_eq_false, not_false_eq_true])
end
abbrev T1 := Tup Int
abbrev T2 := Tup (Tup Int)
def lot (ks : List (List Int)) : List T1 := dd (srt (ks.map Tup.mk))
theorem mem_lot (ks : List (List Int)) (k : List Int) : Tup.mk k ∈ lot ks ↔ k ∈ ks := by
  unfold lot
  rw [dd_mem, (srt_perm _).mem_iff, List.mem_map]
  constructor
  · rintro ⟨a, ha, e⟩
    cases e; exact ha
  · exact fun h => ⟨k, h, rfl⟩
theorem lot_pw (ks : List (List Int)) : (lot ks).Pairwise fun a b => leO a b = true := List.Pairwise.sublist (dd_sub _) (srt_pw _)
theorem lot_nodup (ks : List (List Int)) : (lot ks).Nodup := dd_nodup _
theorem lot_eq {ks ms : List (List Int)} (h : ∀ k, k ∈ ks ↔ k ∈ ms) : lot ks = lot ms :=
  sorted_one (lot_pw _) (lot_pw _) (lot_nodup _) (lot_nodup _) fun x => by
    cases x with | mk k => rw [mem_lot, mem_lot, h]
theorem sset_eval (ks : List (List Int)) (h : (once ks).length ≤ 62) : ssetD (.list (ks.map encI)) = some (.list ((lot ks).map toD)) := by
  have e : ssetD (.list (ks.map encT)) = (tupInts (ks.map encT)).bind fun ks => if (once ks).length ≤ 62 then some (.list (sortL ((once ks).map encT))) else none := rfl
  rw [tupInts_map, Option.bind_some, if_pos h] at e
  refine e.trans ?_
  have e2 : (once ks).map encT = ((once ks).map Tup.mk).map (toD : T1 → D) := by rw [List.map_map] <;> rfl
  rw [e2, sortL_map]
  congr 3
  refine sorted_one (srt_pw _) (lot_pw _) ((srt_perm _).nodup_iff.mpr ?_) (lot_nodup _) fun x => ?_
  · refine List.pairwise_map.mpr ((nodup_once ks).imp fun hne e => hne ?_)
    cases e; rfl
  · cases x with | mk k =>
    rw [mem_lot, (srt_perm _).mem_iff, List.mem_map]
    constructor
    · rintro ⟨a, ha, e⟩
      cases e; exact mem_once.mp ha
    · exact fun h => ⟨k, mem_once.mpr h, rfl⟩
/-! ### the turnings are a group -/
def nth (row : List Int) (i : Nat) : Int := row.getD i 0
theorem nth_snoc (row : List Int) (x : Int) {i : Nat} (h : i < row.length) : nth (row ++ [x]) i = nth row i := by
  unfold nth
  rw [List.getD_eq_getElem?_getD, List.getD_eq_getElem?_getD, List.getElem?_append_left h]
theorem nth_map (f : Int → Int) (row : List Int) {i : Nat} (h : i < row.length) : nth (row.map f) i = f (nth row i) := by
  unfold nth
  rw [List.getD_eq_getElem?_getD, List.getD_eq_getElem?_getD, List.getElem?_map, List.getElem?_eq_getElem h] <;> rfl
theorem nth_mem {row : List Int} {i : Nat} (h : i < row.length) : nth row i ∈ row := by
  unfold nth
  rw [List.getD_eq_getElem?_getD, List.getElem?_eq_getElem h]
  exact List.getElem_mem h
theorem mem_nth {row : List Int} {x : Int} (h : x ∈ row) : ∃ i, i < row.length ∧ nth row i = x := by
  obtain ⟨i, hi, e⟩ := List.getElem_of_mem h
  refine ⟨i, hi, ?_⟩
  unfold nth
  rw [List.getD_eq_getElem?_getD, List.getElem?_eq_getElem hi]
  exact e
theorem nth_rng {n i : Nat} (h : i < n) : nth (rng n) i = (i : Int) := by
  unfold nth rng
  rw [List.getD_eq_getElem?_getD, List.getElem?_map, List.getElem?_range h] <;> rfl
theorem row_ext {a b : List Int} (hl : a.length = b.length) (h : ∀ i, i < a.length → nth a i = nth b i) : a = b := by
  refine List.ext_getElem hl fun i h1 h2 => ?_
  have := h i h1
  unfold nth at this
  rw [List.getD_eq_getElem?_getD, List.getD_eq_getElem?_getD, List.getElem?_eq_getElem h1, List.getElem?_eq_getElem h2] at this
  exact this
theorem allF_iff (u v : Wd) (row : List Int) : allF u v (prow row) = true ↔ ∀ i, i < row.length → ∀ j, j < row.length → F u v ((i : Int), nth row i) ((j : Int), nth row j) = true := by
  unfold allF prow
  simp only [List.all_eq_true, List.mem_map, List.mem_range, forall_exists_index, and_imp, forall_apply_eq_imp_iff₂]
  rfl
theorem mem_bfs (u v : Wd) : ∀ (k : Nat) (row : List Int), row ∈ bfs u v k ↔ row.length = k ∧ (∀ x ∈ row, x ∈ rng v.n) ∧ allF u v (prow row) = true
  | 0, row => by
    constructor
    · intro h
      obtain rfl := List.mem_singleton.mp h
      exact ⟨rfl, fun x h => (by cases h), rfl⟩
    · rintro ⟨h, _⟩
      rw [List.length_eq_zero_iff.mp h]
      exact List.mem_cons_self
  | k + 1, row => by
    constructor
    · intro h
      refine ⟨bfs_len u v _ row h, ?_, bfs_all u v _ row h⟩
      obtain ⟨r0, h0, h⟩ := List.mem_flatMap.mp h
      obtain ⟨x, hx, h⟩ := List.mem_flatMap.mp h
      unfold stepF at h
      split at h
      · obtain rfl := List.mem_singleton.mp h
        intro y hy
        rcases List.mem_append.mp hy with z | z
        · exact ((mem_bfs u v k r0).mp h0).2.1 y z
        · rw [List.mem_singleton.mp z]; exact hx
      · cases h
    · rintro ⟨hl, hm, ha⟩
      have hne : row ≠ [] := fun e => by rw [e] at hl; cases hl
      obtain ⟨r0, x, rfl⟩ : ∃ r0 x, row = r0 ++ [x] := ⟨_, _, (List.dropLast_concat_getLast hne).symm⟩
      have hl0 : r0.length = k := by rw [List.length_append] at hl; exact Nat.succ.inj hl
      refine List.mem_flatMap.mpr ⟨r0, (mem_bfs u v k r0).mpr ⟨hl0, fun y hy => hm y (List.mem_append_left _ hy), ?_⟩, List.mem_flatMap.mpr ⟨x, hm x (List.mem_append_right _ List.mem_cons_self), ?_⟩⟩
      · rw [allF_iff] at ha ⊢
        intro i hi j hj
        have := ha i (by rw [List.length_append]; omega) j (by rw [List.length_append]; omega)
        rw [nth_snoc _ _ hi, nth_snoc _ _ hj] at this
        exact this
      · unfold stepF
        rw [prs_prow, if_pos ha]
        exact List.mem_cons_self
/-- σ turns w -/
structure Turn (w : Wd) (σ : List Int) : Prop where
  len : σ.length = w.n
  low : ∀ i, i < w.n → 0 ≤ nth σ i ∧ nth σ i < w.n
  fit : ∀ i, i < w.n → ∀ j, j < w.n → F w w ((i : Int), nth σ i) ((j : Int), nth σ j) = true
theorem turn_iff (w : Wd) (σ : List Int) : σ ∈ bfs w w w.n ↔ Turn w σ := by
  rw [mem_bfs, allF_iff]
  constructor
  · rintro ⟨a, b, c⟩
    rw [a] at c
    exact ⟨a, fun i hi => mem_rng.mp (b _ (nth_mem (by omega))), c⟩
  · rintro ⟨a, b, c⟩
    refine ⟨a, fun x hx => ?_, by rw [a]; exact c⟩
    obtain ⟨i, hi, e⟩ := mem_nth hx
    rw [← e]
    exact mem_rng.mpr (b i (by omega))
def app (nm it : List Int) : List Int := it.map fun i => nth nm i.toNat
theorem F_refl (w : Wd) (a b : Int) : F w w (a, a) (b, b) = true := by unfold F; simp
theorem turn_id (w : Wd) : Turn w (rng w.n) where
  len := len_rng _
  low := fun i hi => by rw [nth_rng hi]; omega
  fit := fun i hi j hj => by rw [nth_rng hi, nth_rng hj]; exact F_refl w _ _
theorem beq_trans' {a b c : Bool} (h1 : (a == b) = true) (h2 : (b == c) = true) : (a == c) = true := by
  rw [eq_of_beq h1]; exact h2
theorem F_trans (w : Wd) {a b c a' b' c' : Int} (h1 : F w w (a, b) (a', b') = true) (h2 : F w w (b, c) (b', c') = true) : F w w (a, c) (a', c') = true := by
  unfold F at h1 h2 ⊢
  simp only [Bool.and_eq_true] at h1 h2 ⊢
  exact ⟨beq_trans' h1.1 h2.1, beq_trans' h1.2.1 h2.2.1, beq_trans' h1.2.2.1 h2.2.2.1, beq_trans' h1.2.2.2.1 h2.2.2.2.1, beq_trans' h1.2.2.2.2 h2.2.2.2.2⟩
theorem beq_symm' {a b : Bool} (h1 : (a == b) = true) : (b == a) = true := by
  rw [eq_of_beq h1]; exact beq_self_eq_true b
theorem F_flip (w : Wd) {a b a' b' : Int} (h1 : F w w (a, b) (a', b') = true) : F w w (b, a) (b', a') = true := by
  unfold F at h1 ⊢
  simp only [Bool.and_eq_true] at h1 ⊢
  exact ⟨beq_symm' h1.1, beq_symm' h1.2.1, beq_symm' h1.2.2.1, beq_symm' h1.2.2.2.1, beq_symm' h1.2.2.2.2⟩
theorem turn_comp {w : Wd} {τ σ : List Int} (ht : Turn w τ) (hs : Turn w σ) : Turn w (app τ σ) := by
  have e : ∀ i, i < w.n → nth (app τ σ) i = nth τ (nth σ i).toNat := fun i hi => nth_map _ _ (by rw [hs.len]; exact hi)
  refine ⟨by unfold app; rw [List.length_map, hs.len], fun i hi => ?_, fun i hi j hj => ?_⟩
  · rw [e i hi]
    exact ht.low _ (by have := hs.low i hi; omega)
  · rw [e i hi, e j hj]
    have h1 := hs.low i hi
    have h2 := hs.low j hj
    have h3 := ht.fit (nth σ i).toNat (by omega) (nth σ j).toNat (by omega)
    rw [Int.toNat_of_nonneg h1.1, Int.toNat_of_nonneg h2.1] at h3
    exact F_trans w (hs.fit i hi j hj) h3
theorem turn_inj {w : Wd} {σ : List Int} (hs : Turn w σ) {i j : Nat} (hi : i < w.n) (hj : j < w.n) (e : nth σ i = nth σ j) : i = j := by
  have := hs.fit i hi j hj
  unfold F at this
  simp only [Bool.and_eq_true] at this
  have h := eq_of_beq this.1
  rw [decide_eq_true e] at h
  have := of_decide_eq_true h
  omega
theorem turn_sur {w : Wd} {σ : List Int} (hs : Turn w σ) {j : Nat} (hj : j < w.n) : ∃ i, i < w.n ∧ nth σ i = (j : Int) := by
  apply Classical.byContradiction
  intro hn
  have hnd : (((List.range w.n).map (nth σ))).Nodup := by
    refine List.pairwise_map.mpr (List.Pairwise.imp_of_mem (fun {a b} ha hb hab e => ?_) (List.nodup_range (n := w.n)))
    exact hab (turn_inj hs (List.mem_range.mp ha) (List.mem_range.mp hb) e)
  have := L2.nodup_len ((j : Int) :: (List.range w.n).map (nth σ)) (rng w.n) (List.nodup_cons.mpr ⟨fun hm => ?_, hnd⟩) fun x hx => ?_
  · rw [List.length_cons, List.length_map, List.length_range, len_rng] at this
    omega
  · obtain ⟨i, hi, e⟩ := List.mem_map.mp hm
    exact hn ⟨i, List.mem_range.mp hi, e⟩
  · rcases List.mem_cons.mp hx with z | z
    · rw [z]; exact mem_rng.mpr (by omega)
    · obtain ⟨i, hi, e⟩ := List.mem_map.mp z
      rw [← e]
      exact mem_rng.mpr (hs.low i (List.mem_range.mp hi))
theorem turn_inv {w : Wd} {σ : List Int} (hs : Turn w σ) : ∃ τ, Turn w τ ∧ ∀ i, i < w.n → nth τ (nth σ i).toNat = (i : Int) := by
  have ch : ∀ j : Nat, ∃ i : Nat, j < w.n → i < w.n ∧ nth σ i = (j : Int) := fun j => by
    by_cases hj : j < w.n
    · obtain ⟨i, h⟩ := turn_sur hs hj
      exact ⟨i, fun _ => h⟩
    · exact ⟨0, fun h => absurd h hj⟩
  obtain ⟨f, hf⟩ : ∃ f : Nat → Nat, ∀ j, j < w.n → f j < w.n ∧ nth σ (f j) = (j : Int) := ⟨fun j => (ch j).choose, fun j => (ch j).choose_spec⟩
  have e : ∀ j, j < w.n → nth ((rng w.n).map fun j => ((f j.toNat : Nat) : Int)) j = (f j : Nat) := fun j hj => by
    rw [nth_map _ _ (by rw [len_rng]; exact hj), nth_rng hj, Int.toNat_natCast]
  refine ⟨(rng w.n).map fun j => ((f j.toNat : Nat) : Int), ⟨by rw [List.length_map, len_rng], fun j hj => ?_, fun i hi j hj => ?_⟩, fun i hi => ?_⟩
  · rw [e j hj]
    have := (hf j hj).1
    omega
  · rw [e i hi, e j hj]
    have h1 := hf i hi
    have h2 := hf j hj
    have h3 := hs.fit (f i) h1.1 (f j) h2.1
    rw [h1.2, h2.2] at h3
    exact F_flip w h3
  · have h0 := hs.low i hi
    have hlt : (nth σ i).toNat < w.n := by omega
    rw [e _ hlt]
    have h1 := hf _ hlt
    rw [Int.toNat_of_nonneg h0.1] at h1
    rw [turn_inj hs h1.1 hi h1.2]
/-! ### orbits -/
def inR (n : Nat) (it : List Int) : Prop := ∀ x ∈ it, 0 ≤ x ∧ x < n
theorem mem_tups (n : Nat) : ∀ (s : Nat) (row : List Int), row ∈ tups n s ↔ row.length = s ∧ inR n row
  | 0, row => by
    constructor
    · intro h
      obtain rfl := List.mem_singleton.mp h
      exact ⟨rfl, fun x h => by cases h⟩
    · rintro ⟨h, _⟩
      rw [List.length_eq_zero_iff.mp h]
      exact List.mem_cons_self
  | s + 1, row => by
    constructor
    · intro h
      refine ⟨tups_len n _ row h, ?_⟩
      obtain ⟨r0, h0, h⟩ := List.mem_flatMap.mp h
      obtain ⟨x, hx, rfl⟩ := List.mem_map.mp h
      intro y hy
      rcases List.mem_append.mp hy with z | z
      · exact ((mem_tups n s r0).mp h0).2 y z
      · rw [List.mem_singleton.mp z]; exact mem_rng.mp hx
    · rintro ⟨hl, hm⟩
      have hne : row ≠ [] := fun e => by rw [e] at hl; cases hl
      obtain ⟨r0, x, rfl⟩ : ∃ r0 x, row = r0 ++ [x] := ⟨_, _, (List.dropLast_concat_getLast hne).symm⟩
      have hl0 : r0.length = s := by rw [List.length_append] at hl; exact Nat.succ.inj hl
      exact List.mem_flatMap.mpr ⟨r0, (mem_tups n s r0).mpr ⟨hl0, fun y hy => hm y (List.mem_append_left _ hy)⟩, List.mem_map.mpr ⟨x, mem_rng.mpr (hm x (List.mem_append_right _ List.mem_cons_self)), rfl⟩⟩
def ks (w : Wd) (it : List Int) : List (List Int) := (bfs w w w.n).map fun nm => app nm it
def Lot (w : Wd) (it : List Int) : List T1 := lot (ks w it)
theorem mem_Lot (w : Wd) (it k : List Int) : Tup.mk k ∈ Lot w it ↔ ∃ σ, Turn w σ ∧ app σ it = k := by
  unfold Lot ks
  rw [mem_lot, List.mem_map]
  constructor
  · rintro ⟨σ, h, e⟩
    exact ⟨σ, (turn_iff w σ).mp h, e⟩
  · rintro ⟨σ, h, e⟩
    exact ⟨σ, (turn_iff w σ).mpr h, e⟩
theorem app_id {w : Wd} {it : List Int} (h : inR w.n it) : app (rng w.n) it = it := by
  unfold app
  have : it.map (fun i => nth (rng w.n) i.toNat) = it.map id := List.map_congr_left fun x hx => by
    have := h x hx
    rw [nth_rng (by omega)]
    show ((x.toNat : Nat) : Int) = x
    omega
  rw [this, List.map_id]
theorem app_comp {w : Wd} {τ σ it : List Int} (hs : Turn w σ) (h : inR w.n it) : app τ (app σ it) = app (app τ σ) it := by
  unfold app
  rw [List.map_map]
  refine List.map_congr_left fun x hx => ?_
  have := h x hx
  rw [nth_map _ _ (by rw [hs.len]; omega)] <;> rfl
theorem app_in {w : Wd} {σ it : List Int} (hs : Turn w σ) (h : inR w.n it) : inR w.n (app σ it) := fun x hx => by
  obtain ⟨y, hy, rfl⟩ := List.mem_map.mp hx
  have := h y hy
  exact hs.low _ (by omega)
theorem self_Lot {w : Wd} {it : List Int} (h : inR w.n it) : Tup.mk it ∈ Lot w it := (mem_Lot w it it).mpr ⟨_, turn_id w, app_id h⟩
theorem Lot_same {w : Wd} {it : List Int} {σ : List Int} (hs : Turn w σ) (h : inR w.n it) : Lot w (app σ it) = Lot w it := by
  unfold Lot
  refine lot_eq fun k => ?_
  have e1 := mem_Lot w (app σ it) k
  have e2 := mem_Lot w it k
  unfold Lot at e1 e2
  rw [mem_lot] at e1 e2
  rw [e1, e2]
  constructor
  · rintro ⟨τ, ht, rfl⟩
    exact ⟨app τ σ, turn_comp ht hs, (app_comp hs h).symm⟩
  · rintro ⟨ρ, hr, rfl⟩
    obtain ⟨τ, ht, hi⟩ := turn_inv hs
    refine ⟨app ρ τ, turn_comp hr ht, ?_⟩
    rw [← app_comp ht (app_in hs h), app_comp hs h (τ := τ)]
    congr 1
    have : app τ σ = rng w.n := row_ext (by unfold app; rw [List.length_map, hs.len, len_rng]) fun i hi' => by
      unfold app at hi'
      rw [List.length_map, hs.len] at hi'
      show nth (σ.map fun i => nth τ i.toNat) i = _
      rw [nth_map _ _ (by rw [hs.len]; exact hi'), hi i hi', nth_rng hi']
    rw [this, app_id h]
/-- the first of its orbit -/
def lead (w : Wd) (it : List Int) : Bool := decide ((Lot w it).head? = some (Tup.mk it))
theorem tups_sorted {n s : Nat} (hn : n ≤ 5) (hs : s ≤ 2) : ((tups n s).map Tup.mk).Pairwise fun a b : T1 => DatumOrd.lt a b = true := by
  have h : ∀ n : Nat, n < 6 → ∀ s : Nat, s < 3 → ((tups n s).map Tup.mk).Pairwise fun a b : T1 => DatumOrd.lt a b = true := by decide +kernel
  exact h n (by omega) s (by omega)
theorem lt_irr (a : T1) : DatumOrd.lt a a = false := by rw [← DatumOrd.lt_eq]; exact PySem.W.dataLt_self _
theorem head_le {w : Wd} {it : List Int} {h x : T1} {r : List T1} (e : Lot w it = h :: r) (hx : x ∈ Lot w it) : leO h x = true := by
  have := lot_pw (ks w it)
  rw [show lot (ks w it) = h :: r from e] at this
  rw [e] at hx
  rcases List.mem_cons.mp hx with z | z
  · rw [z]; exact (leO_tot.total h h).elim id id
  · exact (List.pairwise_cons.mp this).1 x z
theorem due_orbits {w : Wd} {s : Nat} (hn : w.n ≤ 5) (hs : s ≤ 2) : dd ((tups w.n s).map fun it => Tup.mk (Lot w it)) = ((tups w.n s).filter (lead w)).map fun it => (Tup.mk (Lot w it) : T2) := by
  have T := tups_sorted hn hs
  refine dd_filter _ _ _ (fun d x r e hp hm => ?_) fun d x r e hp => ?_
  all_goals rw [e, List.map_append, List.map_cons] at T
  all_goals obtain ⟨_, T2', T3⟩ := List.pairwise_append.mp T
  all_goals have hx : x ∈ tups w.n s := by rw [e]; exact List.mem_append_right _ List.mem_cons_self
  all_goals have hxr := ((mem_tups _ _ _).mp hx).2
  · obtain ⟨y, hy, ey⟩ := List.mem_map.mp hm
    have ey : Lot w y = Lot w x := congrArg Tup.items ey
    have hyr := ((mem_tups _ _ _).mp (show y ∈ tups w.n s by rw [e]; exact List.mem_append_left _ hy)).2
    unfold lead at hp
    have hp := of_decide_eq_true hp
    cases hL : Lot w x with
    | nil => rw [hL] at hp; cases hp
    | cons h r' =>
      rw [hL] at hp
      cases hp
      have h1 := head_le hL (x := Tup.mk y) (by rw [← ey]; exact self_Lot hyr)
      have h2 := T3 (Tup.mk y) (List.mem_map.mpr ⟨y, hy, rfl⟩) (Tup.mk x) List.mem_cons_self
      unfold leO at h1
      rw [h2] at h1
      cases h1
  · cases hL : Lot w x with
    | nil => have := self_Lot hxr; rw [hL] at this; cases this
    | cons h r' =>
      obtain ⟨h⟩ := h
      have hne : h ≠ x := fun e' => by
        unfold lead at hp
        have := of_decide_eq_false hp
        rw [hL, e'] at this
        exact this rfl
      obtain ⟨σ, hσ, eσ⟩ := (mem_Lot w x h).mp (by rw [hL]; exact List.mem_cons_self)
      have hT : h ∈ tups w.n s := (mem_tups _ _ _).mpr ⟨by rw [← eσ]; unfold app; rw [List.length_map]; exact ((mem_tups _ _ _).mp hx).1, by rw [← eσ]; exact app_in hσ hxr⟩
      have hle := head_le hL (self_Lot hxr)
      have q : Lot w h = Lot w x := by rw [← eσ]; exact Lot_same hσ hxr
      refine List.mem_map.mpr ⟨h, ?_, congrArg Tup.mk (q.trans hL)⟩
      rw [e] at hT
      rcases List.mem_append.mp hT with z | z
      · exact z
      · rcases List.mem_cons.mp z with z | z
        · exact absurd z hne
        · have := (List.pairwise_cons.mp T2').1 (Tup.mk h) (List.mem_map.mpr ⟨h, z, rfl⟩)
          have h2 : DatumOrd.lt (Tup.mk x) (Tup.mk h) = false := by
            unfold leO at hle
            cases q : DatumOrd.lt (Tup.mk x) (Tup.mk h)
            · rfl
            · rw [q] at hle; cases hle
          rw [this] at h2
          cases h2
def orb (w : Wd) (s : Nat) : List T2 := ((tups w.n s).filter (lead w)).map fun it => Tup.mk (Lot w it)
theorem orb_sorted {w : Wd} {s : Nat} (hn : w.n ≤ 5) (hs : s ≤ 2) : (orb w s).Pairwise fun a b => leO a b = true := by
  have T := tups_sorted hn hs
  unfold orb
  refine List.pairwise_map.mpr (List.Pairwise.imp_of_mem (fun {a b} ha hb hab => ?_) ((List.pairwise_map.mp T).filter (lead w)))
  have ha := of_decide_eq_true (List.mem_filter.mp ha).2
  have hb := of_decide_eq_true (List.mem_filter.mp hb).2
  cases hA : Lot w a with
  | nil => rw [hA] at ha; cases ha
  | cons x r =>
    cases hB : Lot w b with
    | nil => rw [hB] at hb; cases hb
    | cons y t =>
      rw [hA] at ha
      rw [hB] at hb
      cases ha
      cases hb
      have hne : Tup.mk b ≠ Tup.mk a := fun e => by
        rw [e, lt_irr] at hab
        cases hab
      have h2 : DatumOrd.lt (Tup.mk b) (Tup.mk a) = false := by
        cases q : DatumOrd.lt (Tup.mk b) (Tup.mk a)
        · rfl
        · have := leO_tot.trans (Tup.mk a) (Tup.mk b) (Tup.mk a)
          have z := leO_tot.total (Tup.mk a) (Tup.mk b)
          unfold leO at z
          rw [hab, q] at z
          simp at z
      show (!(listLt (Tup.mk b :: t) (Tup.mk a :: r))) = true
      rw [listLt, if_neg hne, h2]
      rfl
theorem srt_of {α : Type} [DecidableEq α] [Enc α] {l : List α} (h : l.Pairwise fun a b => leO a b = true) : srt l = l :=
  List.Perm.eq_of_pairwise (le := fun a b : α => leO a b = true) (fun a b _ _ h1 h2 => leO_anti h1 h2) (srt_pw l) h (srt_perm l)
/-! ### what the program answers -/
theorem turnings_eval (w : Wd) (h1 : 1 ≤ w.n) (h5 : w.n ≤ 5) : m_turnings [encW w] = some (.list ((bfs w w w.n).map encI)) := by
  have hb : w.n ^ w.n ≤ 16777216 := Nat.le_trans (Nat.pow_le_pow_right h1 h5) (Nat.le_trans (Nat.pow_le_pow_left h5 5) (by decide))
  unfold m_turnings S_turnings
  (simp only [x_seq, x_nx, x_rt, x_lnx, x_lct, x_lbk, x_lrt, x_bk, x_ct, x_nil, x_ret, x_set, x_asg, x_new, x_frz, x_if, x_drop, x_for, x_gN, x_gT, x_gsN, x_gsC, x_var, x_vvar, x_c, x_bin, x_un, x_of, x_tru, x_tand, x_tor, x_tnot, x_tT, x_and, x_or, x_not, x_eif, x_aN, x_aC, x_tup, x_lst, x_llst, x_call, x_eL, x_lseq, x_rng1, x_comp, x_comp2, x_app, x_ext, x_frzE, x_f1, x_f2, x_fn, x_start, x_rrt, x_rnx, all_D, any_D, x_bN, x_bC, x_asB, x_asI, x_truB, x_truI, x_seqL, x_seqT, x_lenL, x_lenT, x_tupL, x_tupT, x_int, x_wN, x_wC, x_ixT, x_ixL, x_isi, x_is_int_bool, x_is_int_int, x_is_int_str, x_is_int_tuple, x_is_int_list, x_is_int_dict, x_is_tup_bool, x_is_tup_int, x_is_tup_str, x_is_tup_tuple, x_is_tup_list, x_is_tup_dict, x_is_lst_bool, x_is_lst_int, x_is_lst_str, x_is_lst_tuple, x_is_lst_list, x_is_lst_dict, x_is_bl_bool, x_is_bl_int, x_is_bl_str, x_is_bl_tuple, x_is_bl_list, x_is_bl_dict, x_is_non_bool, x_is_non_int, x_is_non_str, x_is_non_tuple, x_is_non_list, x_is_non_dict, x_is_str_bool, x_is_str_int, x_is_str_str, x_is_str_tuple, x_is_str_list, x_is_str_dict, x_ite, x_itm, x_at0, x_at1, x_at2, x_addI, x_subI, x_pow18, x_mod, x_fdiv, x_sq, x_mul, x_mul', x_addT, x_addL, x_gt, x_ge, x_le, x_lt, eqD_int, neD_int, eqD_bool, neD_bool, getS, setS, List.map_cons, List.map_nil, List.length_cons, List.length_nil, List.cons_append, List.nil_append, List.replicate, Option.bind_some, Option.map_some, Option.bind_none, Option.map_none, if_true, if_false, ite_true, ite_false, reduceIte, Nat.reduceAdd, Nat.reduceSub, Nat.reduceLeDiff, Bool.false_eq_true, Nat.reduceEqDiff, Nat.le_refl, LIM, Bool.not_true, Bool.not_false, decide_true, decide_false, decide_eq_true_eq, Int.reduceEq, Int.reduceLT, Int.reduceLE, Int.reduceAdd, Int.reduceSub, Int.reduceNe, Int.reduceNeg, Int.cast_ofNat_Int, ne_eq, not_true_eq_false, not_false_eq_true])
  rw [show m_likenesses 8 [encW w, encW w, PyData.tuple []] = _ from like_eval w w h1 hb (by omega) (by omega) w.n 8 [] (by simp) (by omega), dfs_bfs]
  (simp only [x_seq, x_nx, x_rt, x_lnx, x_lct, x_lbk, x_lrt, x_bk, x_ct, x_nil, x_ret, x_set, x_asg, x_new, x_frz, x_if, x_drop, x_for, x_gN, x_gT, x_gsN, x_gsC, x_var, x_vvar, x_c, x_bin, x_un, x_of, x_tru, x_tand, x_tor, x_tnot, x_tT, x_and, x_or, x_not, x_eif, x_aN, x_aC, x_tup, x_lst, x_llst, x_call, x_eL, x_lseq, x_rng1, x_comp, x_comp2, x_app, x_ext, x_frzE, x_f1, x_f2, x_fn, x_start, x_rrt, x_rnx, all_D, any_D, x_bN, x_bC, x_asB, x_asI, x_truB, x_truI, x_seqL, x_seqT, x_lenL, x_lenT, x_tupL, x_tupT, x_int, x_wN, x_wC, x_ixT, x_ixL, x_isi, x_is_int_bool, x_is_int_int, x_is_int_str, x_is_int_tuple, x_is_int_list, x_is_int_dict, x_is_tup_bool, x_is_tup_int, x_is_tup_str, x_is_tup_tuple, x_is_tup_list, x_is_tup_dict, x_is_lst_bool, x_is_lst_int, x_is_lst_str, x_is_lst_tuple, x_is_lst_list, x_is_lst_dict, x_is_bl_bool, x_is_bl_int, x_is_bl_str, x_is_bl_tuple, x_is_bl_list, x_is_bl_dict, x_is_non_bool, x_is_non_int, x_is_non_str, x_is_non_tuple, x_is_non_list, x_is_non_dict, x_is_str_bool, x_is_str_int, x_is_str_str, x_is_str_tuple, x_is_str_list, x_is_str_dict, x_ite, x_itm, x_at0, x_at1, x_at2, x_addI, x_subI, x_pow18, x_mod, x_fdiv, x_sq, x_mul, x_mul', x_addT, x_addL, x_gt, x_ge, x_le, x_lt, eqD_int, neD_int, eqD_bool, neD_bool, getS, setS, List.map_cons, List.map_nil, List.length_cons, List.length_nil, List.cons_append, List.nil_append, List.replicate, Option.bind_some, Option.map_some, Option.bind_none, Option.map_none, if_true, if_false, ite_true, ite_false, reduceIte, Nat.reduceAdd, Nat.reduceSub, Nat.reduceLeDiff, Bool.false_eq_true, Nat.reduceEqDiff, Nat.le_refl, LIM, Bool.not_true, Bool.not_false, decide_true, decide_false, decide_eq_true_eq, Int.reduceEq, Int.reduceLT, Int.reduceLE, Int.reduceAdd, Int.reduceSub, Int.reduceNe, Int.reduceNeg, Int.cast_ofNat_Int, ne_eq, not_true_eq_false, not_false_eq_true])
theorem led_eval (nm it : List Int) (h : ∀ x ∈ it, 0 ≤ x ∧ x < nm.length) : m_led [encI nm, encI it] = some (encI (app nm it)) := by
  unfold m_led S_led encI
  (simp only [x_seq, x_nx, x_rt, x_lnx, x_lct, x_lbk, x_lrt, x_bk, x_ct, x_nil, x_ret, x_set, x_asg, x_new, x_frz, x_if, x_drop, x_for, x_gN, x_gT, x_gsN, x_gsC, x_var, x_vvar, x_c, x_bin, x_un, x_of, x_tru, x_tand, x_tor, x_tnot, x_tT, x_and, x_or, x_not, x_eif, x_aN, x_aC, x_tup, x_lst, x_llst, x_call, x_eL, x_lseq, x_rng1, x_comp, x_comp2, x_app, x_ext, x_frzE, x_f1, x_f2, x_fn, x_start, x_rrt, x_rnx, all_D, any_D, x_bN, x_bC, x_asB, x_asI, x_truB, x_truI, x_seqL, x_seqT, x_lenL, x_lenT, x_tupL, x_tupT, x_int, x_wN, x_wC, x_ixT, x_ixL, x_isi, x_is_int_bool, x_is_int_int, x_is_int_str, x_is_int_tuple, x_is_int_list, x_is_int_dict, x_is_tup_bool, x_is_tup_int, x_is_tup_str, x_is_tup_tuple, x_is_tup_list, x_is_tup_dict, x_is_lst_bool, x_is_lst_int, x_is_lst_str, x_is_lst_tuple, x_is_lst_list, x_is_lst_dict, x_is_bl_bool, x_is_bl_int, x_is_bl_str, x_is_bl_tuple, x_is_bl_list, x_is_bl_dict, x_is_non_bool, x_is_non_int, x_is_non_str, x_is_non_tuple, x_is_non_list, x_is_non_dict, x_is_str_bool, x_is_str_int, x_is_str_str, x_is_str_tuple, x_is_str_list, x_is_str_dict, x_ite, x_itm, x_at0, x_at1, x_at2, x_addI, x_subI, x_pow18, x_mod, x_fdiv, x_sq, x_mul, x_mul', x_addT, x_addL, x_gt, x_ge, x_le, x_lt, eqD_int, neD_int, eqD_bool, neD_bool, getS, setS, List.map_cons, List.map_nil, List.length_cons, List.length_nil, List.cons_append, List.nil_append, List.replicate, Option.bind_some, Option.map_some, Option.bind_none, Option.map_none, if_true, if_false, ite_true, ite_false, reduceIte, Nat.reduceAdd, Nat.reduceSub, Nat.reduceLeDiff, Bool.false_eq_true, Nat.reduceEqDiff, Nat.le_refl, LIM, Bool.not_true, Bool.not_false, decide_true, decide_false, decide_eq_true_eq, Int.reduceEq, Int.reduceLT, Int.reduceLE, Int.reduceAdd, Int.reduceSub, Int.reduceNe, Int.reduceNeg, Int.cast_ofNat_Int, ne_eq, not_true_eq_false, not_false_eq_true])
  rw [compD_all PyData.int (fun i => PyData.int (nth nm i.toNat)) it fun x hx => ⟨_, rfl, by
    (simp only [x_seq, x_nx, x_rt, x_lnx, x_lct, x_lbk, x_lrt, x_bk, x_ct, x_nil, x_ret, x_set, x_asg, x_new, x_frz, x_if, x_drop, x_for, x_gN, x_gT, x_gsN, x_gsC, x_var, x_vvar, x_c, x_bin, x_un, x_of, x_tru, x_tand, x_tor, x_tnot, x_tT, x_and, x_or, x_not, x_eif, x_aN, x_aC, x_tup, x_lst, x_llst, x_call, x_eL, x_lseq, x_rng1, x_comp, x_comp2, x_app, x_ext, x_frzE, x_f1, x_f2, x_fn, x_start, x_rrt, x_rnx, all_D, any_D, x_bN, x_bC, x_asB, x_asI, x_truB, x_truI, x_seqL, x_seqT, x_lenL, x_lenT, x_tupL, x_tupT, x_int, x_wN, x_wC, x_ixT, x_ixL, x_isi, x_is_int_bool, x_is_int_int, x_is_int_str, x_is_int_tuple, x_is_int_list, x_is_int_dict, x_is_tup_bool, x_is_tup_int, x_is_tup_str, x_is_tup_tuple, x_is_tup_list, x_is_tup_dict, x_is_lst_bool, x_is_lst_int, x_is_lst_str, x_is_lst_tuple, x_is_lst_list, x_is_lst_dict, x_is_bl_bool, x_is_bl_int, x_is_bl_str, x_is_bl_tuple, x_is_bl_list, x_is_bl_dict, x_is_non_bool, x_is_non_int, x_is_non_str, x_is_non_tuple, x_is_non_list, x_is_non_dict, x_is_str_bool, x_is_str_int, x_is_str_str, x_is_str_tuple, x_is_str_list, x_is_str_dict, x_ite, x_itm, x_at0, x_at1, x_at2, x_addI, x_subI, x_pow18, x_mod, x_fdiv, x_sq, x_mul, x_mul', x_addT, x_addL, x_gt, x_ge, x_le, x_lt, eqD_int, neD_int, eqD_bool, neD_bool, getS, setS, List.map_cons, List.map_nil, List.length_cons, List.length_nil, List.cons_append, List.nil_append, List.replicate, Option.bind_some, Option.map_some, Option.bind_none, Option.map_none, if_true, if_false, ite_true, ite_false, reduceIte, Nat.reduceAdd, Nat.reduceSub, Nat.reduceLeDiff, Bool.false_eq_true, Nat.reduceEqDiff, Nat.le_refl, LIM, Bool.not_true, Bool.not_false, decide_true, decide_false, decide_eq_true_eq, Int.reduceEq, Int.reduceLT, Int.reduceLE, Int.reduceAdd, Int.reduceSub, Int.reduceNe, Int.reduceNeg, Int.cast_ofNat_Int, ne_eq, not_true_eq_false, not_false_eq_true])
    have := h x hx
    have e := encI_at nm (k := x.toNat) (by omega)
    rw [Int.toNat_of_nonneg this.1] at e
    exact e⟩]
  (simp only [x_seq, x_nx, x_rt, x_lnx, x_lct, x_lbk, x_lrt, x_bk, x_ct, x_nil, x_ret, x_set, x_asg, x_new, x_frz, x_if, x_drop, x_for, x_gN, x_gT, x_gsN, x_gsC, x_var, x_vvar, x_c, x_bin, x_un, x_of, x_tru, x_tand, x_tor, x_tnot, x_tT, x_and, x_or, x_not, x_eif, x_aN, x_aC, x_tup, x_lst, x_llst, x_call, x_eL, x_lseq, x_rng1, x_comp, x_comp2, x_app, x_ext, x_frzE, x_f1, x_f2, x_fn, x_start, x_rrt, x_rnx, all_D, any_D, x_bN, x_bC, x_asB, x_asI, x_truB, x_truI, x_seqL, x_seqT, x_lenL, x_lenT, x_tupL, x_tupT, x_int, x_wN, x_wC, x_ixT, x_ixL, x_isi, x_is_int_bool, x_is_int_int, x_is_int_str, x_is_int_tuple, x_is_int_list, x_is_int_dict, x_is_tup_bool, x_is_tup_int, x_is_tup_str, x_is_tup_tuple, x_is_tup_list, x_is_tup_dict, x_is_lst_bool, x_is_lst_int, x_is_lst_str, x_is_lst_tuple, x_is_lst_list, x_is_lst_dict, x_is_bl_bool, x_is_bl_int, x_is_bl_str, x_is_bl_tuple, x_is_bl_list, x_is_bl_dict, x_is_non_bool, x_is_non_int, x_is_non_str, x_is_non_tuple, x_is_non_list, x_is_non_dict, x_is_str_bool, x_is_str_int, x_is_str_str, x_is_str_tuple, x_is_str_list, x_is_str_dict, x_ite, x_itm, x_at0, x_at1, x_at2, x_addI, x_subI, x_pow18, x_mod, x_fdiv, x_sq, x_mul, x_mul', x_addT, x_addL, x_gt, x_ge, x_le, x_lt, eqD_int, neD_int, eqD_bool, neD_bool, getS, setS, List.map_cons, List.map_nil, List.length_cons, List.length_nil, List.cons_append, List.nil_append, List.replicate, Option.bind_some, Option.map_some, Option.bind_none, Option.map_none, if_true, if_false, ite_true, ite_false, reduceIte, Nat.reduceAdd, Nat.reduceSub, Nat.reduceLeDiff, Bool.false_eq_true, Nat.reduceEqDiff, Nat.le_refl, LIM, Bool.not_true, Bool.not_false, decide_true, decide_false, decide_eq_true_eq, Int.reduceEq, Int.reduceLT, Int.reduceLE, Int.reduceAdd, Int.reduceSub, Int.reduceNe, Int.reduceNeg, Int.cast_ofNat_Int, ne_eq, not_true_eq_false, not_false_eq_true])
  unfold app
  rw [List.map_map] <;> rfl
theorem ks_once {w : Wd} {s : Nat} {it : List Int} (h5 : w.n ≤ 5) (h1 : 1 ≤ w.n) (hs : s ≤ 2) (hi : it ∈ tups w.n s) : (once (ks w it)).length ≤ 62 := by
  have hi' := (mem_tups _ _ _).mp hi
  have := L2.nodup_len (once (ks w it)) (tups w.n s) (nodup_once _) fun x hx => by
    have hx := mem_once.mp hx
    obtain ⟨σ, hσ, rfl⟩ := List.mem_map.mp hx
    exact (mem_tups _ _ _).mpr ⟨by unfold app; rw [List.length_map]; exact hi'.1, app_in ((turn_iff w σ).mp hσ) hi'.2⟩
  have h2 := tups_le w.n s
  have h3 : w.n ^ s ≤ 5 ^ 2 := Nat.le_trans (Nat.pow_le_pow_right h1 hs) (Nat.pow_le_pow_left h5 2)
  have : (5 : Nat) ^ 2 = 25 := by decide
  omega
theorem orbits_eval (w : Wd) (s : Nat) (h1 : 1 ≤ w.n) (h5 : w.n ≤ 5) (hs : s ≤ 2) : m_orbits [encW w, .int s] = some (.list ((orb w s).map toD)) := by
  have h3 : w.n ^ s ≤ 5 ^ 2 := Nat.le_trans (Nat.pow_le_pow_right h1 hs) (Nat.pow_le_pow_left h5 2)
  have h25 : (5 : Nat) ^ 2 = 25 := by decide
  unfold m_orbits S_orbits
  (simp only [x_seq, x_nx, x_rt, x_lnx, x_lct, x_lbk, x_lrt, x_bk, x_ct, x_nil, x_ret, x_set, x_asg, x_new, x_frz, x_if, x_drop, x_for, x_gN, x_gT, x_gsN, x_gsC, x_var, x_vvar, x_c, x_bin, x_un, x_of, x_tru, x_tand, x_tor, x_tnot, x_tT, x_and, x_or, x_not, x_eif, x_aN, x_aC, x_tup, x_lst, x_llst, x_call, x_eL, x_lseq, x_rng1, x_comp, x_comp2, x_app, x_ext, x_frzE, x_f1, x_f2, x_fn, x_start, x_rrt, x_rnx, all_D, any_D, x_bN, x_bC, x_asB, x_asI, x_truB, x_truI, x_seqL, x_seqT, x_lenL, x_lenT, x_tupL, x_tupT, x_int, x_wN, x_wC, x_ixT, x_ixL, x_isi, x_is_int_bool, x_is_int_int, x_is_int_str, x_is_int_tuple, x_is_int_list, x_is_int_dict, x_is_tup_bool, x_is_tup_int, x_is_tup_str, x_is_tup_tuple, x_is_tup_list, x_is_tup_dict, x_is_lst_bool, x_is_lst_int, x_is_lst_str, x_is_lst_tuple, x_is_lst_list, x_is_lst_dict, x_is_bl_bool, x_is_bl_int, x_is_bl_str, x_is_bl_tuple, x_is_bl_list, x_is_bl_dict, x_is_non_bool, x_is_non_int, x_is_non_str, x_is_non_tuple, x_is_non_list, x_is_non_dict, x_is_str_bool, x_is_str_int, x_is_str_str, x_is_str_tuple, x_is_str_list, x_is_str_dict, x_ite, x_itm, x_at0, x_at1, x_at2, x_addI, x_subI, x_pow18, x_mod, x_fdiv, x_sq, x_mul, x_mul', x_addT, x_addL, x_gt, x_ge, x_le, x_lt, eqD_int, neD_int, eqD_bool, neD_bool, getS, setS, List.map_cons, List.map_nil, List.length_cons, List.length_nil, List.cons_append, List.nil_append, List.replicate, Option.bind_some, Option.map_some, Option.bind_none, Option.map_none, if_true, if_false, ite_true, ite_false, reduceIte, Nat.reduceAdd, Nat.reduceSub, Nat.reduceLeDiff, Bool.false_eq_true, Nat.reduceEqDiff, Nat.le_refl, LIM, Bool.not_true, Bool.not_false, decide_true, decide_false, decide_eq_true_eq, Int.reduceEq, Int.reduceLT, Int.reduceLE, Int.reduceAdd, Int.reduceSub, Int.reduceNe, Int.reduceNeg, Int.cast_ofNat_Int, ne_eq, not_true_eq_false, not_false_eq_true])
  rw [turnings_eval w h1 h5]
  (simp only [x_seq, x_nx, x_rt, x_lnx, x_lct, x_lbk, x_lrt, x_bk, x_ct, x_nil, x_ret, x_set, x_asg, x_new, x_frz, x_if, x_drop, x_for, x_gN, x_gT, x_gsN, x_gsC, x_var, x_vvar, x_c, x_bin, x_un, x_of, x_tru, x_tand, x_tor, x_tnot, x_tT, x_and, x_or, x_not, x_eif, x_aN, x_aC, x_tup, x_lst, x_llst, x_call, x_eL, x_lseq, x_rng1, x_comp, x_comp2, x_app, x_ext, x_frzE, x_f1, x_f2, x_fn, x_start, x_rrt, x_rnx, all_D, any_D, x_bN, x_bC, x_asB, x_asI, x_truB, x_truI, x_seqL, x_seqT, x_lenL, x_lenT, x_tupL, x_tupT, x_int, x_wN, x_wC, x_ixT, x_ixL, x_isi, x_is_int_bool, x_is_int_int, x_is_int_str, x_is_int_tuple, x_is_int_list, x_is_int_dict, x_is_tup_bool, x_is_tup_int, x_is_tup_str, x_is_tup_tuple, x_is_tup_list, x_is_tup_dict, x_is_lst_bool, x_is_lst_int, x_is_lst_str, x_is_lst_tuple, x_is_lst_list, x_is_lst_dict, x_is_bl_bool, x_is_bl_int, x_is_bl_str, x_is_bl_tuple, x_is_bl_list, x_is_bl_dict, x_is_non_bool, x_is_non_int, x_is_non_str, x_is_non_tuple, x_is_non_list, x_is_non_dict, x_is_str_bool, x_is_str_int, x_is_str_str, x_is_str_tuple, x_is_str_list, x_is_str_dict, x_ite, x_itm, x_at0, x_at1, x_at2, x_addI, x_subI, x_pow18, x_mod, x_fdiv, x_sq, x_mul, x_mul', x_addT, x_addL, x_gt, x_ge, x_le, x_lt, eqD_int, neD_int, eqD_bool, neD_bool, getS, setS, List.map_cons, List.map_nil, List.length_cons, List.length_nil, List.cons_append, List.nil_append, List.replicate, Option.bind_some, Option.map_some, Option.bind_none, Option.map_none, if_true, if_false, ite_true, ite_false, reduceIte, Nat.reduceAdd, Nat.reduceSub, Nat.reduceLeDiff, Bool.false_eq_true, Nat.reduceEqDiff, Nat.le_refl, LIM, Bool.not_true, Bool.not_false, decide_true, decide_false, decide_eq_true_eq, Int.reduceEq, Int.reduceLT, Int.reduceLE, Int.reduceAdd, Int.reduceSub, Int.reduceNe, Int.reduceNeg, Int.cast_ofNat_Int, ne_eq, not_true_eq_false, not_false_eq_true])
  rw [show ixD (encW w) (.int 0) = some (.int w.n) by unfold encW; (simp only [x_seq, x_nx, x_rt, x_lnx, x_lct, x_lbk, x_lrt, x_bk, x_ct, x_nil, x_ret, x_set, x_asg, x_new, x_frz, x_if, x_drop, x_for, x_gN, x_gT, x_gsN, x_gsC, x_var, x_vvar, x_c, x_bin, x_un, x_of, x_tru, x_tand, x_tor, x_tnot, x_tT, x_and, x_or, x_not, x_eif, x_aN, x_aC, x_tup, x_lst, x_llst, x_call, x_eL, x_lseq, x_rng1, x_comp, x_comp2, x_app, x_ext, x_frzE, x_f1, x_f2, x_fn, x_start, x_rrt, x_rnx, all_D, any_D, x_bN, x_bC, x_asB, x_asI, x_truB, x_truI, x_seqL, x_seqT, x_lenL, x_lenT, x_tupL, x_tupT, x_int, x_wN, x_wC, x_ixT, x_ixL, x_isi, x_is_int_bool, x_is_int_int, x_is_int_str, x_is_int_tuple, x_is_int_list, x_is_int_dict, x_is_tup_bool, x_is_tup_int, x_is_tup_str, x_is_tup_tuple, x_is_tup_list, x_is_tup_dict, x_is_lst_bool, x_is_lst_int, x_is_lst_str, x_is_lst_tuple, x_is_lst_list, x_is_lst_dict, x_is_bl_bool, x_is_bl_int, x_is_bl_str, x_is_bl_tuple, x_is_bl_list, x_is_bl_dict, x_is_non_bool, x_is_non_int, x_is_non_str, x_is_non_tuple, x_is_non_list, x_is_non_dict, x_is_str_bool, x_is_str_int, x_is_str_str, x_is_str_tuple, x_is_str_list, x_is_str_dict, x_ite, x_itm, x_at0, x_at1, x_at2, x_addI, x_subI, x_pow18, x_mod, x_fdiv, x_sq, x_mul, x_mul', x_addT, x_addL, x_gt, x_ge, x_le, x_lt, eqD_int, neD_int, eqD_bool, neD_bool, getS, setS, List.map_cons, List.map_nil, List.length_cons, List.length_nil, List.cons_append, List.nil_append, List.replicate, Option.bind_some, Option.map_some, Option.bind_none, Option.map_none, if_true, if_false, ite_true, ite_false, reduceIte, Nat.reduceAdd, Nat.reduceSub, Nat.reduceLeDiff, Bool.false_eq_true, Nat.reduceEqDiff, Nat.le_refl, LIM, Bool.not_true, Bool.not_false, decide_true, decide_false, decide_eq_true_eq, Int.reduceEq, Int.reduceLT, Int.reduceLE, Int.reduceAdd, Int.reduceSub, Int.reduceNe, Int.reduceNeg, Int.cast_ofNat_Int, ne_eq, not_true_eq_false, not_false_eq_true])]
  (simp only [x_seq, x_nx, x_rt, x_lnx, x_lct, x_lbk, x_lrt, x_bk, x_ct, x_nil, x_ret, x_set, x_asg, x_new, x_frz, x_if, x_drop, x_for, x_gN, x_gT, x_gsN, x_gsC, x_var, x_vvar, x_c, x_bin, x_un, x_of, x_tru, x_tand, x_tor, x_tnot, x_tT, x_and, x_or, x_not, x_eif, x_aN, x_aC, x_tup, x_lst, x_llst, x_call, x_eL, x_lseq, x_rng1, x_comp, x_comp2, x_app, x_ext, x_frzE, x_f1, x_f2, x_fn, x_start, x_rrt, x_rnx, all_D, any_D, x_bN, x_bC, x_asB, x_asI, x_truB, x_truI, x_seqL, x_seqT, x_lenL, x_lenT, x_tupL, x_tupT, x_int, x_wN, x_wC, x_ixT, x_ixL, x_isi, x_is_int_bool, x_is_int_int, x_is_int_str, x_is_int_tuple, x_is_int_list, x_is_int_dict, x_is_tup_bool, x_is_tup_int, x_is_tup_str, x_is_tup_tuple, x_is_tup_list, x_is_tup_dict, x_is_lst_bool, x_is_lst_int, x_is_lst_str, x_is_lst_tuple, x_is_lst_list, x_is_lst_dict, x_is_bl_bool, x_is_bl_int, x_is_bl_str, x_is_bl_tuple, x_is_bl_list, x_is_bl_dict, x_is_non_bool, x_is_non_int, x_is_non_str, x_is_non_tuple, x_is_non_list, x_is_non_dict, x_is_str_bool, x_is_str_int, x_is_str_str, x_is_str_tuple, x_is_str_list, x_is_str_dict, x_ite, x_itm, x_at0, x_at1, x_at2, x_addI, x_subI, x_pow18, x_mod, x_fdiv, x_sq, x_mul, x_mul', x_addT, x_addL, x_gt, x_ge, x_le, x_lt, eqD_int, neD_int, eqD_bool, neD_bool, getS, setS, List.map_cons, List.map_nil, List.length_cons, List.length_nil, List.cons_append, List.nil_append, List.replicate, Option.bind_some, Option.map_some, Option.bind_none, Option.map_none, if_true, if_false, ite_true, ite_false, reduceIte, Nat.reduceAdd, Nat.reduceSub, Nat.reduceLeDiff, Bool.false_eq_true, Nat.reduceEqDiff, Nat.le_refl, LIM, Bool.not_true, Bool.not_false, decide_true, decide_false, decide_eq_true_eq, Int.reduceEq, Int.reduceLT, Int.reduceLE, Int.reduceAdd, Int.reduceSub, Int.reduceNe, Int.reduceNeg, Int.cast_ofNat_Int, ne_eq, not_true_eq_false, not_false_eq_true])
  rw [tuples_eval w.n s (by omega) h1 (by omega) (by omega)]
  (simp only [x_seq, x_nx, x_rt, x_lnx, x_lct, x_lbk, x_lrt, x_bk, x_ct, x_nil, x_ret, x_set, x_asg, x_new, x_frz, x_if, x_drop, x_for, x_gN, x_gT, x_gsN, x_gsC, x_var, x_vvar, x_c, x_bin, x_un, x_of, x_tru, x_tand, x_tor, x_tnot, x_tT, x_and, x_or, x_not, x_eif, x_aN, x_aC, x_tup, x_lst, x_llst, x_call, x_eL, x_lseq, x_rng1, x_comp, x_comp2, x_app, x_ext, x_frzE, x_f1, x_f2, x_fn, x_start, x_rrt, x_rnx, all_D, any_D, x_bN, x_bC, x_asB, x_asI, x_truB, x_truI, x_seqL, x_seqT, x_lenL, x_lenT, x_tupL, x_tupT, x_int, x_wN, x_wC, x_ixT, x_ixL, x_isi, x_is_int_bool, x_is_int_int, x_is_int_str, x_is_int_tuple, x_is_int_list, x_is_int_dict, x_is_tup_bool, x_is_tup_int, x_is_tup_str, x_is_tup_tuple, x_is_tup_list, x_is_tup_dict, x_is_lst_bool, x_is_lst_int, x_is_lst_str, x_is_lst_tuple, x_is_lst_list, x_is_lst_dict, x_is_bl_bool, x_is_bl_int, x_is_bl_str, x_is_bl_tuple, x_is_bl_list, x_is_bl_dict, x_is_non_bool, x_is_non_int, x_is_non_str, x_is_non_tuple, x_is_non_list, x_is_non_dict, x_is_str_bool, x_is_str_int, x_is_str_str, x_is_str_tuple, x_is_str_list, x_is_str_dict, x_ite, x_itm, x_at0, x_at1, x_at2, x_addI, x_subI, x_pow18, x_mod, x_fdiv, x_sq, x_mul, x_mul', x_addT, x_addL, x_gt, x_ge, x_le, x_lt, eqD_int, neD_int, eqD_bool, neD_bool, getS, setS, List.map_cons, List.map_nil, List.length_cons, List.length_nil, List.cons_append, List.nil_append, List.replicate, Option.bind_some, Option.map_some, Option.bind_none, Option.map_none, if_true, if_false, ite_true, ite_false, reduceIte, Nat.reduceAdd, Nat.reduceSub, Nat.reduceLeDiff, Bool.false_eq_true, Nat.reduceEqDiff, Nat.le_refl, LIM, Bool.not_true, Bool.not_false, decide_true, decide_false, decide_eq_true_eq, Int.reduceEq, Int.reduceLT, Int.reduceLE, Int.reduceAdd, Int.reduceSub, Int.reduceNe, Int.reduceNeg, Int.cast_ofNat_Int, ne_eq, not_true_eq_false, not_false_eq_true])
  obtain ⟨ρ', e, t4, t5, t6, rfl⟩ := forD_at (gg := gN 4) (S := b_orbits_0) encI
    (fun done ρ => ∃ s4 s5 s6, ρ = [.dat (encW w), .dat (.int s), .dat (.list ((bfs w w w.n).map encI)), .own (((done.filter (lead w)).map fun it => (Tup.mk (Lot w it) : T2)).map toD), s4, s5, s6]) (tups w.n s) [] _ ⟨.un, .un, .un, rfl⟩ (fun d it rest hd ρ ⟨s4, s5, s6, e⟩ => by
      subst e
      rw [List.nil_append] at hd
      have hit : it ∈ tups w.n s := by rw [hd]; exact List.mem_append_right _ List.mem_cons_self
      have hir := ((mem_tups _ _ _).mp hit).2
      have hdl : d.length + 1 ≤ w.n ^ s := by
        have := congrArg List.length hd
        rw [List.length_append, List.length_cons] at this
        have := tups_le w.n s
        omega
      refine ⟨_, rfl, ?_⟩
      unfold b_orbits_0
      (simp only [x_seq, x_nx, x_rt, x_lnx, x_lct, x_lbk, x_lrt, x_bk, x_ct, x_nil, x_ret, x_set, x_asg, x_new, x_frz, x_if, x_drop, x_for, x_gN, x_gT, x_gsN, x_gsC, x_var, x_vvar, x_c, x_bin, x_un, x_of, x_tru, x_tand, x_tor, x_tnot, x_tT, x_and, x_or, x_not, x_eif, x_aN, x_aC, x_tup, x_lst, x_llst, x_call, x_eL, x_lseq, x_rng1, x_comp, x_comp2, x_app, x_ext, x_frzE, x_f1, x_f2, x_fn, x_start, x_rrt, x_rnx, all_D, any_D, x_bN, x_bC, x_asB, x_asI, x_truB, x_truI, x_seqL, x_seqT, x_lenL, x_lenT, x_tupL, x_tupT, x_int, x_wN, x_wC, x_ixT, x_ixL, x_isi, x_is_int_bool, x_is_int_int, x_is_int_str, x_is_int_tuple, x_is_int_list, x_is_int_dict, x_is_tup_bool, x_is_tup_int, x_is_tup_str, x_is_tup_tuple, x_is_tup_list, x_is_tup_dict, x_is_lst_bool, x_is_lst_int, x_is_lst_str, x_is_lst_tuple, x_is_lst_list, x_is_lst_dict, x_is_bl_bool, x_is_bl_int, x_is_bl_str, x_is_bl_tuple, x_is_bl_list, x_is_bl_dict, x_is_non_bool, x_is_non_int, x_is_non_str, x_is_non_tuple, x_is_non_list, x_is_non_dict, x_is_str_bool, x_is_str_int, x_is_str_str, x_is_str_tuple, x_is_str_list, x_is_str_dict, x_ite, x_itm, x_at0, x_at1, x_at2, x_addI, x_subI, x_pow18, x_mod, x_fdiv, x_sq, x_mul, x_mul', x_addT, x_addL, x_gt, x_ge, x_le, x_lt, eqD_int, neD_int, eqD_bool, neD_bool, getS, setS, List.map_cons, List.map_nil, List.length_cons, List.length_nil, List.cons_append, List.nil_append, List.replicate, Option.bind_some, Option.map_some, Option.bind_none, Option.map_none, if_true, if_false, ite_true, ite_false, reduceIte, Nat.reduceAdd, Nat.reduceSub, Nat.reduceLeDiff, Bool.false_eq_true, Nat.reduceEqDiff, Nat.le_refl, LIM, Bool.not_true, Bool.not_false, decide_true, decide_false, decide_eq_true_eq, Int.reduceEq, Int.reduceLT, Int.reduceLE, Int.reduceAdd, Int.reduceSub, Int.reduceNe, Int.reduceNeg, Int.cast_ofNat_Int, ne_eq, not_true_eq_false, not_false_eq_true])
      rw [compD_all encI (fun nm => encI (app nm it)) (bfs w w w.n) fun nm hnm => ⟨_, rfl, by
        (simp only [x_seq, x_nx, x_rt, x_lnx, x_lct, x_lbk, x_lrt, x_bk, x_ct, x_nil, x_ret, x_set, x_asg, x_new, x_frz, x_if, x_drop, x_for, x_gN, x_gT, x_gsN, x_gsC, x_var, x_vvar, x_c, x_bin, x_un, x_of, x_tru, x_tand, x_tor, x_tnot, x_tT, x_and, x_or, x_not, x_eif, x_aN, x_aC, x_tup, x_lst, x_llst, x_call, x_eL, x_lseq, x_rng1, x_comp, x_comp2, x_app, x_ext, x_frzE, x_f1, x_f2, x_fn, x_start, x_rrt, x_rnx, all_D, any_D, x_bN, x_bC, x_asB, x_asI, x_truB, x_truI, x_seqL, x_seqT, x_lenL, x_lenT, x_tupL, x_tupT, x_int, x_wN, x_wC, x_ixT, x_ixL, x_isi, x_is_int_bool, x_is_int_int, x_is_int_str, x_is_int_tuple, x_is_int_list, x_is_int_dict, x_is_tup_bool, x_is_tup_int, x_is_tup_str, x_is_tup_tuple, x_is_tup_list, x_is_tup_dict, x_is_lst_bool, x_is_lst_int, x_is_lst_str, x_is_lst_tuple, x_is_lst_list, x_is_lst_dict, x_is_bl_bool, x_is_bl_int, x_is_bl_str, x_is_bl_tuple, x_is_bl_list, x_is_bl_dict, x_is_non_bool, x_is_non_int, x_is_non_str, x_is_non_tuple, x_is_non_list, x_is_non_dict, x_is_str_bool, x_is_str_int, x_is_str_str, x_is_str_tuple, x_is_str_list, x_is_str_dict, x_ite, x_itm, x_at0, x_at1, x_at2, x_addI, x_subI, x_pow18, x_mod, x_fdiv, x_sq, x_mul, x_mul', x_addT, x_addL, x_gt, x_ge, x_le, x_lt, eqD_int, neD_int, eqD_bool, neD_bool, getS, setS, List.map_cons, List.map_nil, List.length_cons, List.length_nil, List.cons_append, List.nil_append, List.replicate, Option.bind_some, Option.map_some, Option.bind_none, Option.map_none, if_true, if_false, ite_true, ite_false, reduceIte, Nat.reduceAdd, Nat.reduceSub, Nat.reduceLeDiff, Bool.false_eq_true, Nat.reduceEqDiff, Nat.le_refl, LIM, Bool.not_true, Bool.not_false, decide_true, decide_false, decide_eq_true_eq, Int.reduceEq, Int.reduceLT, Int.reduceLE, Int.reduceAdd, Int.reduceSub, Int.reduceNe, Int.reduceNeg, Int.cast_ofNat_Int, ne_eq, not_true_eq_false, not_false_eq_true])
        have ht := (turn_iff w nm).mp hnm
        exact led_eval nm it fun x hx => by rw [ht.len]; exact hir x hx⟩]
      (simp only [x_seq, x_nx, x_rt, x_lnx, x_lct, x_lbk, x_lrt, x_bk, x_ct, x_nil, x_ret, x_set, x_asg, x_new, x_frz, x_if, x_drop, x_for, x_gN, x_gT, x_gsN, x_gsC, x_var, x_vvar, x_c, x_bin, x_un, x_of, x_tru, x_tand, x_tor, x_tnot, x_tT, x_and, x_or, x_not, x_eif, x_aN, x_aC, x_tup, x_lst, x_llst, x_call, x_eL, x_lseq, x_rng1, x_comp, x_comp2, x_app, x_ext, x_frzE, x_f1, x_f2, x_fn, x_start, x_rrt, x_rnx, all_D, any_D, x_bN, x_bC, x_asB, x_asI, x_truB, x_truI, x_seqL, x_seqT, x_lenL, x_lenT, x_tupL, x_tupT, x_int, x_wN, x_wC, x_ixT, x_ixL, x_isi, x_is_int_bool, x_is_int_int, x_is_int_str, x_is_int_tuple, x_is_int_list, x_is_int_dict, x_is_tup_bool, x_is_tup_int, x_is_tup_str, x_is_tup_tuple, x_is_tup_list, x_is_tup_dict, x_is_lst_bool, x_is_lst_int, x_is_lst_str, x_is_lst_tuple, x_is_lst_list, x_is_lst_dict, x_is_bl_bool, x_is_bl_int, x_is_bl_str, x_is_bl_tuple, x_is_bl_list, x_is_bl_dict, x_is_non_bool, x_is_non_int, x_is_non_str, x_is_non_tuple, x_is_non_list, x_is_non_dict, x_is_str_bool, x_is_str_int, x_is_str_str, x_is_str_tuple, x_is_str_list, x_is_str_dict, x_ite, x_itm, x_at0, x_at1, x_at2, x_addI, x_subI, x_pow18, x_mod, x_fdiv, x_sq, x_mul, x_mul', x_addT, x_addL, x_gt, x_ge, x_le, x_lt, eqD_int, neD_int, eqD_bool, neD_bool, getS, setS, List.map_cons, List.map_nil, List.length_cons, List.length_nil, List.cons_append, List.nil_append, List.replicate, Option.bind_some, Option.map_some, Option.bind_none, Option.map_none, if_true, if_false, ite_true, ite_false, reduceIte, Nat.reduceAdd, Nat.reduceSub, Nat.reduceLeDiff, Bool.false_eq_true, Nat.reduceEqDiff, Nat.le_refl, LIM, Bool.not_true, Bool.not_false, decide_true, decide_false, decide_eq_true_eq, Int.reduceEq, Int.reduceLT, Int.reduceLE, Int.reduceAdd, Int.reduceSub, Int.reduceNe, Int.reduceNeg, Int.cast_ofNat_Int, ne_eq, not_true_eq_false, not_false_eq_true])
      rw [show (bfs w w w.n).map (fun nm => encI (app nm it)) = (ks w it).map encI by unfold ks; rw [List.map_map]; rfl, sset_eval _ (ks_once h5 h1 hs hit)]
      (simp only [x_seq, x_nx, x_rt, x_lnx, x_lct, x_lbk, x_lrt, x_bk, x_ct, x_nil, x_ret, x_set, x_asg, x_new, x_frz, x_if, x_drop, x_for, x_gN, x_gT, x_gsN, x_gsC, x_var, x_vvar, x_c, x_bin, x_un, x_of, x_tru, x_tand, x_tor, x_tnot, x_tT, x_and, x_or, x_not, x_eif, x_aN, x_aC, x_tup, x_lst, x_llst, x_call, x_eL, x_lseq, x_rng1, x_comp, x_comp2, x_app, x_ext, x_frzE, x_f1, x_f2, x_fn, x_start, x_rrt, x_rnx, all_D, any_D, x_bN, x_bC, x_asB, x_asI, x_truB, x_truI, x_seqL, x_seqT, x_lenL, x_lenT, x_tupL, x_tupT, x_int, x_wN, x_wC, x_ixT, x_ixL, x_isi, x_is_int_bool, x_is_int_int, x_is_int_str, x_is_int_tuple, x_is_int_list, x_is_int_dict, x_is_tup_bool, x_is_tup_int, x_is_tup_str, x_is_tup_tuple, x_is_tup_list, x_is_tup_dict, x_is_lst_bool, x_is_lst_int, x_is_lst_str, x_is_lst_tuple, x_is_lst_list, x_is_lst_dict, x_is_bl_bool, x_is_bl_int, x_is_bl_str, x_is_bl_tuple, x_is_bl_list, x_is_bl_dict, x_is_non_bool, x_is_non_int, x_is_non_str, x_is_non_tuple, x_is_non_list, x_is_non_dict, x_is_str_bool, x_is_str_int, x_is_str_str, x_is_str_tuple, x_is_str_list, x_is_str_dict, x_ite, x_itm, x_at0, x_at1, x_at2, x_addI, x_subI, x_pow18, x_mod, x_fdiv, x_sq, x_mul, x_mul', x_addT, x_addL, x_gt, x_ge, x_le, x_lt, eqD_int, neD_int, eqD_bool, neD_bool, getS, setS, List.map_cons, List.map_nil, List.length_cons, List.length_nil, List.cons_append, List.nil_append, List.replicate, Option.bind_some, Option.map_some, Option.bind_none, Option.map_none, if_true, if_false, ite_true, ite_false, reduceIte, Nat.reduceAdd, Nat.reduceSub, Nat.reduceLeDiff, Bool.false_eq_true, Nat.reduceEqDiff, Nat.le_refl, LIM, Bool.not_true, Bool.not_false, decide_true, decide_false, decide_eq_true_eq, Int.reduceEq, Int.reduceLT, Int.reduceLE, Int.reduceAdd, Int.reduceSub, Int.reduceNe, Int.reduceNeg, Int.cast_ofNat_Int, ne_eq, not_true_eq_false, not_false_eq_true])
      cases hL : Lot w it with
      | nil => have := self_Lot hir; rw [hL] at this; cases this
      | cons h r =>
        rw [show lot (ks w it) = h :: r from hL]
        (simp only [x_seq, x_nx, x_rt, x_lnx, x_lct, x_lbk, x_lrt, x_bk, x_ct, x_nil, x_ret, x_set, x_asg, x_new, x_frz, x_if, x_drop, x_for, x_gN, x_gT, x_gsN, x_gsC, x_var, x_vvar, x_c, x_bin, x_un, x_of, x_tru, x_tand, x_tor, x_tnot, x_tT, x_and, x_or, x_not, x_eif, x_aN, x_aC, x_tup, x_lst, x_llst, x_call, x_eL, x_lseq, x_rng1, x_comp, x_comp2, x_app, x_ext, x_frzE, x_f1, x_f2, x_fn, x_start, x_rrt, x_rnx, all_D, any_D, x_bN, x_bC, x_asB, x_asI, x_truB, x_truI, x_seqL, x_seqT, x_lenL, x_lenT, x_tupL, x_tupT, x_int, x_wN, x_wC, x_ixT, x_ixL, x_isi, x_is_int_bool, x_is_int_int, x_is_int_str, x_is_int_tuple, x_is_int_list, x_is_int_dict, x_is_tup_bool, x_is_tup_int, x_is_tup_str, x_is_tup_tuple, x_is_tup_list, x_is_tup_dict, x_is_lst_bool, x_is_lst_int, x_is_lst_str, x_is_lst_tuple, x_is_lst_list, x_is_lst_dict, x_is_bl_bool, x_is_bl_int, x_is_bl_str, x_is_bl_tuple, x_is_bl_list, x_is_bl_dict, x_is_non_bool, x_is_non_int, x_is_non_str, x_is_non_tuple, x_is_non_list, x_is_non_dict, x_is_str_bool, x_is_str_int, x_is_str_str, x_is_str_tuple, x_is_str_list, x_is_str_dict, x_ite, x_itm, x_at0, x_at1, x_at2, x_addI, x_subI, x_pow18, x_mod, x_fdiv, x_sq, x_mul, x_mul', x_addT, x_addL, x_gt, x_ge, x_le, x_lt, eqD_int, neD_int, eqD_bool, neD_bool, getS, setS, List.map_cons, List.map_nil, List.length_cons, List.length_nil, List.cons_append, List.nil_append, List.replicate, Option.bind_some, Option.map_some, Option.bind_none, Option.map_none, if_true, if_false, ite_true, ite_false, reduceIte, Nat.reduceAdd, Nat.reduceSub, Nat.reduceLeDiff, Bool.false_eq_true, Nat.reduceEqDiff, Nat.le_refl, LIM, Bool.not_true, Bool.not_false, decide_true, decide_false, decide_eq_true_eq, Int.reduceEq, Int.reduceLT, Int.reduceLE, Int.reduceAdd, Int.reduceSub, Int.reduceNe, Int.reduceNeg, Int.cast_ofNat_Int, ne_eq, not_true_eq_false, not_false_eq_true])
        rw [show eqD (toD h) (encI it) = some (.bool (decide (h = Tup.mk it))) from eq_D (α := T1) h (Tup.mk it)]
        (simp only [x_seq, x_nx, x_rt, x_lnx, x_lct, x_lbk, x_lrt, x_bk, x_ct, x_nil, x_ret, x_set, x_asg, x_new, x_frz, x_if, x_drop, x_for, x_gN, x_gT, x_gsN, x_gsC, x_var, x_vvar, x_c, x_bin, x_un, x_of, x_tru, x_tand, x_tor, x_tnot, x_tT, x_and, x_or, x_not, x_eif, x_aN, x_aC, x_tup, x_lst, x_llst, x_call, x_eL, x_lseq, x_rng1, x_comp, x_comp2, x_app, x_ext, x_frzE, x_f1, x_f2, x_fn, x_start, x_rrt, x_rnx, all_D, any_D, x_bN, x_bC, x_asB, x_asI, x_truB, x_truI, x_seqL, x_seqT, x_lenL, x_lenT, x_tupL, x_tupT, x_int, x_wN, x_wC, x_ixT, x_ixL, x_isi, x_is_int_bool, x_is_int_int, x_is_int_str, x_is_int_tuple, x_is_int_list, x_is_int_dict, x_is_tup_bool, x_is_tup_int, x_is_tup_str, x_is_tup_tuple, x_is_tup_list, x_is_tup_dict, x_is_lst_bool, x_is_lst_int, x_is_lst_str, x_is_lst_tuple, x_is_lst_list, x_is_lst_dict, x_is_bl_bool, x_is_bl_int, x_is_bl_str, x_is_bl_tuple, x_is_bl_list, x_is_bl_dict, x_is_non_bool, x_is_non_int, x_is_non_str, x_is_non_tuple, x_is_non_list, x_is_non_dict, x_is_str_bool, x_is_str_int, x_is_str_str, x_is_str_tuple, x_is_str_list, x_is_str_dict, x_ite, x_itm, x_at0, x_at1, x_at2, x_addI, x_subI, x_pow18, x_mod, x_fdiv, x_sq, x_mul, x_mul', x_addT, x_addL, x_gt, x_ge, x_le, x_lt, eqD_int, neD_int, eqD_bool, neD_bool, getS, setS, List.map_cons, List.map_nil, List.length_cons, List.length_nil, List.cons_append, List.nil_append, List.replicate, Option.bind_some, Option.map_some, Option.bind_none, Option.map_none, if_true, if_false, ite_true, ite_false, reduceIte, Nat.reduceAdd, Nat.reduceSub, Nat.reduceLeDiff, Bool.false_eq_true, Nat.reduceEqDiff, Nat.le_refl, LIM, Bool.not_true, Bool.not_false, decide_true, decide_false, decide_eq_true_eq, Int.reduceEq, Int.reduceLT, Int.reduceLE, Int.reduceAdd, Int.reduceSub, Int.reduceNe, Int.reduceNeg, Int.cast_ofNat_Int, ne_eq, not_true_eq_false, not_false_eq_true])
        rw [List.filter_append, List.filter_cons, List.filter_nil]
        unfold lead
        rw [hL]
        by_cases hh : h = Tup.mk it
        · rw [if_pos hh, if_pos (by
            rw [List.length_map, List.length_map]
            have := List.length_filter_le (lead w) d
            unfold lead at this
            omega), if_pos (by rw [hh]; exact decide_eq_true rfl), List.map_append, List.map_append, List.map_cons, List.map_nil, hL]
          exact ⟨_, rfl, _, _, _, rfl⟩
        · rw [if_neg hh, if_neg (by simpa using hh), List.append_nil]
          exact ⟨_, rfl, _, _, _, rfl⟩)
  refine (bind2_of e).trans ?_
  (simp only [x_seq, x_nx, x_rt, x_lnx, x_lct, x_lbk, x_lrt, x_bk, x_ct, x_nil, x_ret, x_set, x_asg, x_new, x_frz, x_if, x_drop, x_for, x_gN, x_gT, x_gsN, x_gsC, x_var, x_vvar, x_c, x_bin, x_un, x_of, x_tru, x_tand, x_tor, x_tnot, x_tT, x_and, x_or, x_not, x_eif, x_aN, x_aC, x_tup, x_lst, x_llst, x_call, x_eL, x_lseq, x_rng1, x_comp, x_comp2, x_app, x_ext, x_frzE, x_f1, x_f2, x_fn, x_start, x_rrt, x_rnx, all_D, any_D, x_bN, x_bC, x_asB, x_asI, x_truB, x_truI, x_seqL, x_seqT, x_lenL, x_lenT, x_tupL, x_tupT, x_int, x_wN, x_wC, x_ixT, x_ixL, x_isi, x_is_int_bool, x_is_int_int, x_is_int_str, x_is_int_tuple, x_is_int_list, x_is_int_dict, x_is_tup_bool, x_is_tup_int, x_is_tup_str, x_is_tup_tuple, x_is_tup_list, x_is_tup_dict, x_is_lst_bool, x_is_lst_int, x_is_lst_str, x_is_lst_tuple, x_is_lst_list, x_is_lst_dict, x_is_bl_bool, x_is_bl_int, x_is_bl_str, x_is_bl_tuple, x_is_bl_list, x_is_bl_dict, x_is_non_bool, x_is_non_int, x_is_non_str, x_is_non_tuple, x_is_non_list, x_is_non_dict, x_is_str_bool, x_is_str_int, x_is_str_str, x_is_str_tuple, x_is_str_list, x_is_str_dict, x_ite, x_itm, x_at0, x_at1, x_at2, x_addI, x_subI, x_pow18, x_mod, x_fdiv, x_sq, x_mul, x_mul', x_addT, x_addL, x_gt, x_ge, x_le, x_lt, eqD_int, neD_int, eqD_bool, neD_bool, getS, setS, List.map_cons, List.map_nil, List.length_cons, List.length_nil, List.cons_append, List.nil_append, List.replicate, Option.bind_some, Option.map_some, Option.bind_none, Option.map_none, if_true, if_false, ite_true, ite_false, reduceIte, Nat.reduceAdd, Nat.reduceSub, Nat.reduceLeDiff, Bool.false_eq_true, Nat.reduceEqDiff, Nat.le_refl, LIM, Bool.not_true, Bool.not_false, decide_true, decide_false, decide_eq_true_eq, Int.reduceEq, Int.reduceLT, Int.reduceLE, Int.reduceAdd, Int.reduceSub, Int.reduceNe, Int.reduceNeg, Int.cast_ofNat_Int, ne_eq, not_true_eq_false, not_false_eq_true])
  rfl
/-! ### the law's draws -/
theorem cell_eval (ns : List Int) : m__law_cell [.list (ns.map PyData.int), .int 0] = some (.int (ns.headD 0)) := by
  unfold m__law_cell S__law_cell
  (simp only [x_seq, x_nx, x_rt, x_lnx, x_lct, x_lbk, x_lrt, x_bk, x_ct, x_nil, x_ret, x_set, x_asg, x_new, x_frz, x_if, x_drop, x_for, x_gN, x_gT, x_gsN, x_gsC, x_var, x_vvar, x_c, x_bin, x_un, x_of, x_tru, x_tand, x_tor, x_tnot, x_tT, x_and, x_or, x_not, x_eif, x_aN, x_aC, x_tup, x_lst, x_llst, x_call, x_eL, x_lseq, x_rng1, x_comp, x_comp2, x_app, x_ext, x_frzE, x_f1, x_f2, x_fn, x_start, x_rrt, x_rnx, all_D, any_D, x_bN, x_bC, x_asB, x_asI, x_truB, x_truI, x_seqL, x_seqT, x_lenL, x_lenT, x_tupL, x_tupT, x_int, x_wN, x_wC, x_ixT, x_ixL, x_isi, x_is_int_bool, x_is_int_int, x_is_int_str, x_is_int_tuple, x_is_int_list, x_is_int_dict, x_is_tup_bool, x_is_tup_int, x_is_tup_str, x_is_tup_tuple, x_is_tup_list, x_is_tup_dict, x_is_lst_bool, x_is_lst_int, x_is_lst_str, x_is_lst_tuple, x_is_lst_list, x_is_lst_dict, x_is_bl_bool, x_is_bl_int, x_is_bl_str, x_is_bl_tuple, x_is_bl_list, x_is_bl_dict, x_is_non_bool, x_is_non_int, x_is_non_str, x_is_non_tuple, x_is_non_list, x_is_non_dict, x_is_str_bool, x_is_str_int, x_is_str_str, x_is_str_tuple, x_is_str_list, x_is_str_dict, x_ite, x_itm, x_at0, x_at1, x_at2, x_addI, x_subI, x_pow18, x_mod, x_fdiv, x_sq, x_mul, x_mul', x_addT, x_addL, x_gt, x_ge, x_le, x_lt, eqD_int, neD_int, eqD_bool, neD_bool, getS, setS, List.map_cons, List.map_nil, List.length_cons, List.length_nil, List.cons_append, List.nil_append, List.replicate, Option.bind_some, Option.map_some, Option.bind_none, Option.map_none, if_true, if_false, ite_true, ite_false, reduceIte, Nat.reduceAdd, Nat.reduceSub, Nat.reduceLeDiff, Bool.false_eq_true, Nat.reduceEqDiff, Nat.le_refl, LIM, Bool.not_true, Bool.not_false, decide_true, decide_false, decide_eq_true_eq, Int.reduceEq, Int.reduceLT, Int.reduceLE, Int.reduceAdd, Int.reduceSub, Int.reduceNe, Int.reduceNeg, Int.cast_ofNat_Int, ne_eq, not_true_eq_false, not_false_eq_true])
  cases ns with
  | nil => (simp only [x_seq, x_nx, x_rt, x_lnx, x_lct, x_lbk, x_lrt, x_bk, x_ct, x_nil, x_ret, x_set, x_asg, x_new, x_frz, x_if, x_drop, x_for, x_gN, x_gT, x_gsN, x_gsC, x_var, x_vvar, x_c, x_bin, x_un, x_of, x_tru, x_tand, x_tor, x_tnot, x_tT, x_and, x_or, x_not, x_eif, x_aN, x_aC, x_tup, x_lst, x_llst, x_call, x_eL, x_lseq, x_rng1, x_comp, x_comp2, x_app, x_ext, x_frzE, x_f1, x_f2, x_fn, x_start, x_rrt, x_rnx, all_D, any_D, x_bN, x_bC, x_asB, x_asI, x_truB, x_truI, x_seqL, x_seqT, x_lenL, x_lenT, x_tupL, x_tupT, x_int, x_wN, x_wC, x_ixT, x_ixL, x_isi, x_is_int_bool, x_is_int_int, x_is_int_str, x_is_int_tuple, x_is_int_list, x_is_int_dict, x_is_tup_bool, x_is_tup_int, x_is_tup_str, x_is_tup_tuple, x_is_tup_list, x_is_tup_dict, x_is_lst_bool, x_is_lst_int, x_is_lst_str, x_is_lst_tuple, x_is_lst_list, x_is_lst_dict, x_is_bl_bool, x_is_bl_int, x_is_bl_str, x_is_bl_tuple, x_is_bl_list, x_is_bl_dict, x_is_non_bool, x_is_non_int, x_is_non_str, x_is_non_tuple, x_is_non_list, x_is_non_dict, x_is_str_bool, x_is_str_int, x_is_str_str, x_is_str_tuple, x_is_str_list, x_is_str_dict, x_ite, x_itm, x_at0, x_at1, x_at2, x_addI, x_subI, x_pow18, x_mod, x_fdiv, x_sq, x_mul, x_mul', x_addT, x_addL, x_gt, x_ge, x_le, x_lt, eqD_int, neD_int, eqD_bool, neD_bool, getS, setS, List.map_cons, List.map_nil, List.length_cons, List.length_nil, List.cons_append, List.nil_append, List.replicate, Option.bind_some, Option.map_some, Option.bind_none, Option.map_none, if_true, if_false, ite_true, ite_false, reduceIte, Nat.reduceAdd, Nat.reduceSub, Nat.reduceLeDiff, Bool.false_eq_true, Nat.reduceEqDiff, Nat.le_refl, LIM, Bool.not_true, Bool.not_false, decide_true, decide_false, decide_eq_true_eq, Int.reduceEq, Int.reduceLT, Int.reduceLE, Int.reduceAdd, Int.reduceSub, Int.reduceNe, Int.reduceNeg, Int.cast_ofNat_Int, ne_eq, not_true_eq_false, not_false_eq_true]); rfl
  | cons n ns => (simp only [x_seq, x_nx, x_rt, x_lnx, x_lct, x_lbk, x_lrt, x_bk, x_ct, x_nil, x_ret, x_set, x_asg, x_new, x_frz, x_if, x_drop, x_for, x_gN, x_gT, x_gsN, x_gsC, x_var, x_vvar, x_c, x_bin, x_un, x_of, x_tru, x_tand, x_tor, x_tnot, x_tT, x_and, x_or, x_not, x_eif, x_aN, x_aC, x_tup, x_lst, x_llst, x_call, x_eL, x_lseq, x_rng1, x_comp, x_comp2, x_app, x_ext, x_frzE, x_f1, x_f2, x_fn, x_start, x_rrt, x_rnx, all_D, any_D, x_bN, x_bC, x_asB, x_asI, x_truB, x_truI, x_seqL, x_seqT, x_lenL, x_lenT, x_tupL, x_tupT, x_int, x_wN, x_wC, x_ixT, x_ixL, x_isi, x_is_int_bool, x_is_int_int, x_is_int_str, x_is_int_tuple, x_is_int_list, x_is_int_dict, x_is_tup_bool, x_is_tup_int, x_is_tup_str, x_is_tup_tuple, x_is_tup_list, x_is_tup_dict, x_is_lst_bool, x_is_lst_int, x_is_lst_str, x_is_lst_tuple, x_is_lst_list, x_is_lst_dict, x_is_bl_bool, x_is_bl_int, x_is_bl_str, x_is_bl_tuple, x_is_bl_list, x_is_bl_dict, x_is_non_bool, x_is_non_int, x_is_non_str, x_is_non_tuple, x_is_non_list, x_is_non_dict, x_is_str_bool, x_is_str_int, x_is_str_str, x_is_str_tuple, x_is_str_list, x_is_str_dict, x_ite, x_itm, x_at0, x_at1, x_at2, x_addI, x_subI, x_pow18, x_mod, x_fdiv, x_sq, x_mul, x_mul', x_addT, x_addL, x_gt, x_ge, x_le, x_lt, eqD_int, neD_int, eqD_bool, neD_bool, getS, setS, List.map_cons, List.map_nil, List.length_cons, List.length_nil, List.cons_append, List.nil_append, List.replicate, Option.bind_some, Option.map_some, Option.bind_none, Option.map_none, if_true, if_false, ite_true, ite_false, reduceIte, Nat.reduceAdd, Nat.reduceSub, Nat.reduceLeDiff, Bool.false_eq_true, Nat.reduceEqDiff, Nat.le_refl, LIM, Bool.not_true, Bool.not_false, decide_true, decide_false, decide_eq_true_eq, Int.reduceEq, Int.reduceLT, Int.reduceLE, Int.reduceAdd, Int.reduceSub, Int.reduceNe, Int.reduceNeg, Int.cast_ofNat_Int, ne_eq, not_true_eq_false, not_false_eq_true]); rw [if_pos (by rw [List.length_map]; omega)]; rfl
theorem draws_eval (c : Int) (n : Nat) (hn : n ≤ 1000) : ∃ ds : List Int, ds.length = n ∧ (∀ x ∈ ds, 0 ≤ x ∧ x < 4096) ∧ m__law_draws [.int c, .int n] = some (.list (ds.map PyData.int)) := by
  obtain ⟨ρ', e, ds, l, s4, s5, rfl, h1, h2⟩ := forD_at (gg := gN 4) (S := b__law_draws_0) PyData.int
    (fun done ρ => ∃ (ds : List Int) (l : Int) (s4 s5 : Sl), ρ = [.dat (.int c), .dat (.int n), .own (ds.map PyData.int), .dat (.int l), s4, s5] ∧ ds.length = done.length ∧ ∀ x ∈ ds, 0 ≤ x ∧ x < 4096) (rng n) [] _ ⟨[], c, .un, .un, rfl, rfl, fun x h => by cases h⟩ (fun d x rest hd ρ ⟨ds, l, s4, s5, e, h1, h2⟩ => by
      subst e
      rw [List.nil_append] at hd
      have hdl : d.length + 1 ≤ n := by
        have := congrArg List.length hd
        rw [len_rng, List.length_append, List.length_cons] at this
        omega
      have hx : x = d.length := rng_at hd
      refine ⟨_, rfl, ?_⟩
      unfold b__law_draws_0
      (simp only [x_seq, x_nx, x_rt, x_lnx, x_lct, x_lbk, x_lrt, x_bk, x_ct, x_nil, x_ret, x_set, x_asg, x_new, x_frz, x_if, x_drop, x_for, x_gN, x_gT, x_gsN, x_gsC, x_var, x_vvar, x_c, x_bin, x_un, x_of, x_tru, x_tand, x_tor, x_tnot, x_tT, x_and, x_or, x_not, x_eif, x_aN, x_aC, x_tup, x_lst, x_llst, x_call, x_eL, x_lseq, x_rng1, x_comp, x_comp2, x_app, x_ext, x_frzE, x_f1, x_f2, x_fn, x_start, x_rrt, x_rnx, all_D, any_D, x_bN, x_bC, x_asB, x_asI, x_truB, x_truI, x_seqL, x_seqT, x_lenL, x_lenT, x_tupL, x_tupT, x_int, x_wN, x_wC, x_ixT, x_ixL, x_isi, x_is_int_bool, x_is_int_int, x_is_int_str, x_is_int_tuple, x_is_int_list, x_is_int_dict, x_is_tup_bool, x_is_tup_int, x_is_tup_str, x_is_tup_tuple, x_is_tup_list, x_is_tup_dict, x_is_lst_bool, x_is_lst_int, x_is_lst_str, x_is_lst_tuple, x_is_lst_list, x_is_lst_dict, x_is_bl_bool, x_is_bl_int, x_is_bl_str, x_is_bl_tuple, x_is_bl_list, x_is_bl_dict, x_is_non_bool, x_is_non_int, x_is_non_str, x_is_non_tuple, x_is_non_list, x_is_non_dict, x_is_str_bool, x_is_str_int, x_is_str_str, x_is_str_tuple, x_is_str_list, x_is_str_dict, x_ite, x_itm, x_at0, x_at1, x_at2, x_addI, x_subI, x_pow18, x_mod, x_fdiv, x_sq, x_mul, x_mul', x_addT, x_addL, x_gt, x_ge, x_le, x_lt, eqD_int, neD_int, eqD_bool, neD_bool, getS, setS, List.map_cons, List.map_nil, List.length_cons, List.length_nil, List.cons_append, List.nil_append, List.replicate, Option.bind_some, Option.map_some, Option.bind_none, Option.map_none, if_true, if_false, ite_true, ite_false, reduceIte, Nat.reduceAdd, Nat.reduceSub, Nat.reduceLeDiff, Bool.false_eq_true, Nat.reduceEqDiff, Nat.le_refl, LIM, Bool.not_true, Bool.not_false, decide_true, decide_false, decide_eq_true_eq, Int.reduceEq, Int.reduceLT, Int.reduceLE, Int.reduceAdd, Int.reduceSub, Int.reduceNe, Int.reduceNeg, Int.cast_ofNat_Int, ne_eq, not_true_eq_false, not_false_eq_true])
      simp only [List.length_map]
      have hlt : ds.length < 16777216 := by omega
      have step : ∀ (y l' : Int) (s4 s5 : Sl), 0 ≤ y ∧ y < 4096 → ∃ (ds' : List Int) (l : Int) (t4 t5 : Sl), ([.dat (.int c), .dat (.int n), .own (ds.map PyData.int ++ [.int y]), .dat (.int l'), s4, s5] : PL.Env) = [.dat (.int c), .dat (.int n), .own (ds'.map PyData.int), .dat (.int l), t4, t5] ∧ ds'.length = (d ++ [x]).length ∧ ∀ z ∈ ds', 0 ≤ z ∧ z < 4096 := fun y l' s4 s5 hy => by
        refine ⟨ds ++ [y], l', s4, s5, by rw [List.map_append]; rfl, by rw [List.length_append, List.length_append, h1]; rfl, fun z hz => ?_⟩
        rcases List.mem_append.mp hz with q | q
        · exact h2 z q
        · rw [List.mem_singleton.mp q]; exact hy
      simp only [if_pos hlt]
      split
      · split
        · exact ⟨_, rfl, step _ _ _ _ (by omega)⟩
        · exact ⟨_, rfl, step _ _ _ _ (by omega)⟩
      · exact ⟨_, rfl, step _ _ _ _ (by omega)⟩)
  rw [List.nil_append, len_rng] at h1
  refine ⟨ds, h1, h2, ?_⟩
  unfold m__law_draws S__law_draws
  (simp only [x_seq, x_nx, x_rt, x_lnx, x_lct, x_lbk, x_lrt, x_bk, x_ct, x_nil, x_ret, x_set, x_asg, x_new, x_frz, x_if, x_drop, x_for, x_gN, x_gT, x_gsN, x_gsC, x_var, x_vvar, x_c, x_bin, x_un, x_of, x_tru, x_tand, x_tor, x_tnot, x_tT, x_and, x_or, x_not, x_eif, x_aN, x_aC, x_tup, x_lst, x_llst, x_call, x_eL, x_lseq, x_rng1, x_comp, x_comp2, x_app, x_ext, x_frzE, x_f1, x_f2, x_fn, x_start, x_rrt, x_rnx, all_D, any_D, x_bN, x_bC, x_asB, x_asI, x_truB, x_truI, x_seqL, x_seqT, x_lenL, x_lenT, x_tupL, x_tupT, x_int, x_wN, x_wC, x_ixT, x_ixL, x_isi, x_is_int_bool, x_is_int_int, x_is_int_str, x_is_int_tuple, x_is_int_list, x_is_int_dict, x_is_tup_bool, x_is_tup_int, x_is_tup_str, x_is_tup_tuple, x_is_tup_list, x_is_tup_dict, x_is_lst_bool, x_is_lst_int, x_is_lst_str, x_is_lst_tuple, x_is_lst_list, x_is_lst_dict, x_is_bl_bool, x_is_bl_int, x_is_bl_str, x_is_bl_tuple, x_is_bl_list, x_is_bl_dict, x_is_non_bool, x_is_non_int, x_is_non_str, x_is_non_tuple, x_is_non_list, x_is_non_dict, x_is_str_bool, x_is_str_int, x_is_str_str, x_is_str_tuple, x_is_str_list, x_is_str_dict, x_ite, x_itm, x_at0, x_at1, x_at2, x_addI, x_subI, x_pow18, x_mod, x_fdiv, x_sq, x_mul, x_mul', x_addT, x_addL, x_gt, x_ge, x_le, x_lt, eqD_int, neD_int, eqD_bool, neD_bool, getS, setS, List.map_cons, List.map_nil, List.length_cons, List.length_nil, List.cons_append, List.nil_append, List.replicate, Option.bind_some, Option.map_some, Option.bind_none, Option.map_none, if_true, if_false, ite_true, ite_false, reduceIte, Nat.reduceAdd, Nat.reduceSub, Nat.reduceLeDiff, Bool.false_eq_true, Nat.reduceEqDiff, Nat.le_refl, LIM, Bool.not_true, Bool.not_false, decide_true, decide_false, decide_eq_true_eq, Int.reduceEq, Int.reduceLT, Int.reduceLE, Int.reduceAdd, Int.reduceSub, Int.reduceNe, Int.reduceNeg, Int.cast_ofNat_Int, ne_eq, not_true_eq_false, not_false_eq_true])
  rw [rngD_nat (show n ≤ 16777216 by omega)]
  (simp only [x_seq, x_nx, x_rt, x_lnx, x_lct, x_lbk, x_lrt, x_bk, x_ct, x_nil, x_ret, x_set, x_asg, x_new, x_frz, x_if, x_drop, x_for, x_gN, x_gT, x_gsN, x_gsC, x_var, x_vvar, x_c, x_bin, x_un, x_of, x_tru, x_tand, x_tor, x_tnot, x_tT, x_and, x_or, x_not, x_eif, x_aN, x_aC, x_tup, x_lst, x_llst, x_call, x_eL, x_lseq, x_rng1, x_comp, x_comp2, x_app, x_ext, x_frzE, x_f1, x_f2, x_fn, x_start, x_rrt, x_rnx, all_D, any_D, x_bN, x_bC, x_asB, x_asI, x_truB, x_truI, x_seqL, x_seqT, x_lenL, x_lenT, x_tupL, x_tupT, x_int, x_wN, x_wC, x_ixT, x_ixL, x_isi, x_is_int_bool, x_is_int_int, x_is_int_str, x_is_int_tuple, x_is_int_list, x_is_int_dict, x_is_tup_bool, x_is_tup_int, x_is_tup_str, x_is_tup_tuple, x_is_tup_list, x_is_tup_dict, x_is_lst_bool, x_is_lst_int, x_is_lst_str, x_is_lst_tuple, x_is_lst_list, x_is_lst_dict, x_is_bl_bool, x_is_bl_int, x_is_bl_str, x_is_bl_tuple, x_is_bl_list, x_is_bl_dict, x_is_non_bool, x_is_non_int, x_is_non_str, x_is_non_tuple, x_is_non_list, x_is_non_dict, x_is_str_bool, x_is_str_int, x_is_str_str, x_is_str_tuple, x_is_str_list, x_is_str_dict, x_ite, x_itm, x_at0, x_at1, x_at2, x_addI, x_subI, x_pow18, x_mod, x_fdiv, x_sq, x_mul, x_mul', x_addT, x_addL, x_gt, x_ge, x_le, x_lt, eqD_int, neD_int, eqD_bool, neD_bool, getS, setS, List.map_cons, List.map_nil, List.length_cons, List.length_nil, List.cons_append, List.nil_append, List.replicate, Option.bind_some, Option.map_some, Option.bind_none, Option.map_none, if_true, if_false, ite_true, ite_false, reduceIte, Nat.reduceAdd, Nat.reduceSub, Nat.reduceLeDiff, Bool.false_eq_true, Nat.reduceEqDiff, Nat.le_refl, LIM, Bool.not_true, Bool.not_false, decide_true, decide_false, decide_eq_true_eq, Int.reduceEq, Int.reduceLT, Int.reduceLE, Int.reduceAdd, Int.reduceSub, Int.reduceNe, Int.reduceNeg, Int.cast_ofNat_Int, ne_eq, not_true_eq_false, not_false_eq_true])
  refine (bind2_of e).trans ?_
  (simp only [x_seq, x_nx, x_rt, x_lnx, x_lct, x_lbk, x_lrt, x_bk, x_ct, x_nil, x_ret, x_set, x_asg, x_new, x_frz, x_if, x_drop, x_for, x_gN, x_gT, x_gsN, x_gsC, x_var, x_vvar, x_c, x_bin, x_un, x_of, x_tru, x_tand, x_tor, x_tnot, x_tT, x_and, x_or, x_not, x_eif, x_aN, x_aC, x_tup, x_lst, x_llst, x_call, x_eL, x_lseq, x_rng1, x_comp, x_comp2, x_app, x_ext, x_frzE, x_f1, x_f2, x_fn, x_start, x_rrt, x_rnx, all_D, any_D, x_bN, x_bC, x_asB, x_asI, x_truB, x_truI, x_seqL, x_seqT, x_lenL, x_lenT, x_tupL, x_tupT, x_int, x_wN, x_wC, x_ixT, x_ixL, x_isi, x_is_int_bool, x_is_int_int, x_is_int_str, x_is_int_tuple, x_is_int_list, x_is_int_dict, x_is_tup_bool, x_is_tup_int, x_is_tup_str, x_is_tup_tuple, x_is_tup_list, x_is_tup_dict, x_is_lst_bool, x_is_lst_int, x_is_lst_str, x_is_lst_tuple, x_is_lst_list, x_is_lst_dict, x_is_bl_bool, x_is_bl_int, x_is_bl_str, x_is_bl_tuple, x_is_bl_list, x_is_bl_dict, x_is_non_bool, x_is_non_int, x_is_non_str, x_is_non_tuple, x_is_non_list, x_is_non_dict, x_is_str_bool, x_is_str_int, x_is_str_str, x_is_str_tuple, x_is_str_list, x_is_str_dict, x_ite, x_itm, x_at0, x_at1, x_at2, x_addI, x_subI, x_pow18, x_mod, x_fdiv, x_sq, x_mul, x_mul', x_addT, x_addL, x_gt, x_ge, x_le, x_lt, eqD_int, neD_int, eqD_bool, neD_bool, getS, setS, List.map_cons, List.map_nil, List.length_cons, List.length_nil, List.cons_append, List.nil_append, List.replicate, Option.bind_some, Option.map_some, Option.bind_none, Option.map_none, if_true, if_false, ite_true, ite_false, reduceIte, Nat.reduceAdd, Nat.reduceSub, Nat.reduceLeDiff, Bool.false_eq_true, Nat.reduceEqDiff, Nat.le_refl, LIM, Bool.not_true, Bool.not_false, decide_true, decide_false, decide_eq_true_eq, Int.reduceEq, Int.reduceLT, Int.reduceLE, Int.reduceAdd, Int.reduceSub, Int.reduceNe, Int.reduceNeg, Int.cast_ofNat_Int, ne_eq, not_true_eq_false, not_false_eq_true])
/-! ### equal to itself -/
def flatD : Nat → D → Prop
  | _, .int _ => True
  | k + 1, .tuple ds => ds.length ≤ 16777216 ∧ ∀ d ∈ ds, flatD k d
  | k + 1, .list ds => ds.length ≤ 16777216 ∧ ∀ d ∈ ds, flatD k d
  | _, _ => False
theorem kind_int (i : Int) : m__law_kind [.int i] = some (.int 2) := by unfold m__law_kind S__law_kind; (simp only [x_seq, x_nx, x_rt, x_lnx, x_lct, x_lbk, x_lrt, x_bk, x_ct, x_nil, x_ret, x_set, x_asg, x_new, x_frz, x_if, x_drop, x_for, x_gN, x_gT, x_gsN, x_gsC, x_var, x_vvar, x_c, x_bin, x_un, x_of, x_tru, x_tand, x_tor, x_tnot, x_tT, x_and, x_or, x_not, x_eif, x_aN, x_aC, x_tup, x_lst, x_llst, x_call, x_eL, x_lseq, x_rng1, x_comp, x_comp2, x_app, x_ext, x_frzE, x_f1, x_f2, x_fn, x_start, x_rrt, x_rnx, all_D, any_D, x_bN, x_bC, x_asB, x_asI, x_truB, x_truI, x_seqL, x_seqT, x_lenL, x_lenT, x_tupL, x_tupT, x_int, x_wN, x_wC, x_ixT, x_ixL, x_isi, x_is_int_bool, x_is_int_int, x_is_int_str, x_is_int_tuple, x_is_int_list, x_is_int_dict, x_is_tup_bool, x_is_tup_int, x_is_tup_str, x_is_tup_tuple, x_is_tup_list, x_is_tup_dict, x_is_lst_bool, x_is_lst_int, x_is_lst_str, x_is_lst_tuple, x_is_lst_list, x_is_lst_dict, x_is_bl_bool, x_is_bl_int, x_is_bl_str, x_is_bl_tuple, x_is_bl_list, x_is_bl_dict, x_is_non_bool, x_is_non_int, x_is_non_str, x_is_non_tuple, x_is_non_list, x_is_non_dict, x_is_str_bool, x_is_str_int, x_is_str_str, x_is_str_tuple, x_is_str_list, x_is_str_dict, x_ite, x_itm, x_at0, x_at1, x_at2, x_addI, x_subI, x_pow18, x_mod, x_fdiv, x_sq, x_mul, x_mul', x_addT, x_addL, x_gt, x_ge, x_le, x_lt, eqD_int, neD_int, eqD_bool, neD_bool, getS, setS, List.map_cons, List.map_nil, List.length_cons, List.length_nil, List.cons_append, List.nil_append, List.replicate, Option.bind_some, Option.map_some, Option.bind_none, Option.map_none, if_true, if_false, ite_true, ite_false, reduceIte, Nat.reduceAdd, Nat.reduceSub, Nat.reduceLeDiff, Bool.false_eq_true, Nat.reduceEqDiff, Nat.le_refl, LIM, Bool.not_true, Bool.not_false, decide_true, decide_false, decide_eq_true_eq, Int.reduceEq, Int.reduceLT, Int.reduceLE, Int.reduceAdd, Int.reduceSub, Int.reduceNe, Int.reduceNeg, Int.cast_ofNat_Int, ne_eq, not_true_eq_false, not_false_eq_true])
theorem kind_tup (ds : List D) : m__law_kind [.tuple ds] = some (.int 4) := by unfold m__law_kind S__law_kind; (simp only [x_seq, x_nx, x_rt, x_lnx, x_lct, x_lbk, x_lrt, x_bk, x_ct, x_nil, x_ret, x_set, x_asg, x_new, x_frz, x_if, x_drop, x_for, x_gN, x_gT, x_gsN, x_gsC, x_var, x_vvar, x_c, x_bin, x_un, x_of, x_tru, x_tand, x_tor, x_tnot, x_tT, x_and, x_or, x_not, x_eif, x_aN, x_aC, x_tup, x_lst, x_llst, x_call, x_eL, x_lseq, x_rng1, x_comp, x_comp2, x_app, x_ext, x_frzE, x_f1, x_f2, x_fn, x_start, x_rrt, x_rnx, all_D, any_D, x_bN, x_bC, x_asB, x_asI, x_truB, x_truI, x_seqL, x_seqT, x_lenL, x_lenT, x_tupL, x_tupT, x_int, x_wN, x_wC, x_ixT, x_ixL, x_isi, x_is_int_bool, x_is_int_int, x_is_int_str, x_is_int_tuple, x_is_int_list, x_is_int_dict, x_is_tup_bool, x_is_tup_int, x_is_tup_str, x_is_tup_tuple, x_is_tup_list, x_is_tup_dict, x_is_lst_bool, x_is_lst_int, x_is_lst_str, x_is_lst_tuple, x_is_lst_list, x_is_lst_dict, x_is_bl_bool, x_is_bl_int, x_is_bl_str, x_is_bl_tuple, x_is_bl_list, x_is_bl_dict, x_is_non_bool, x_is_non_int, x_is_non_str, x_is_non_tuple, x_is_non_list, x_is_non_dict, x_is_str_bool, x_is_str_int, x_is_str_str, x_is_str_tuple, x_is_str_list, x_is_str_dict, x_ite, x_itm, x_at0, x_at1, x_at2, x_addI, x_subI, x_pow18, x_mod, x_fdiv, x_sq, x_mul, x_mul', x_addT, x_addL, x_gt, x_ge, x_le, x_lt, eqD_int, neD_int, eqD_bool, neD_bool, getS, setS, List.map_cons, List.map_nil, List.length_cons, List.length_nil, List.cons_append, List.nil_append, List.replicate, Option.bind_some, Option.map_some, Option.bind_none, Option.map_none, if_true, if_false, ite_true, ite_false, reduceIte, Nat.reduceAdd, Nat.reduceSub, Nat.reduceLeDiff, Bool.false_eq_true, Nat.reduceEqDiff, Nat.le_refl, LIM, Bool.not_true, Bool.not_false, decide_true, decide_false, decide_eq_true_eq, Int.reduceEq, Int.reduceLT, Int.reduceLE, Int.reduceAdd, Int.reduceSub, Int.reduceNe, Int.reduceNeg, Int.cast_ofNat_Int, ne_eq, not_true_eq_false, not_false_eq_true])
theorem kind_lst (ds : List D) : m__law_kind [.list ds] = some (.int 5) := by unfold m__law_kind S__law_kind; (simp only [x_seq, x_nx, x_rt, x_lnx, x_lct, x_lbk, x_lrt, x_bk, x_ct, x_nil, x_ret, x_set, x_asg, x_new, x_frz, x_if, x_drop, x_for, x_gN, x_gT, x_gsN, x_gsC, x_var, x_vvar, x_c, x_bin, x_un, x_of, x_tru, x_tand, x_tor, x_tnot, x_tT, x_and, x_or, x_not, x_eif, x_aN, x_aC, x_tup, x_lst, x_llst, x_call, x_eL, x_lseq, x_rng1, x_comp, x_comp2, x_app, x_ext, x_frzE, x_f1, x_f2, x_fn, x_start, x_rrt, x_rnx, all_D, any_D, x_bN, x_bC, x_asB, x_asI, x_truB, x_truI, x_seqL, x_seqT, x_lenL, x_lenT, x_tupL, x_tupT, x_int, x_wN, x_wC, x_ixT, x_ixL, x_isi, x_is_int_bool, x_is_int_int, x_is_int_str, x_is_int_tuple, x_is_int_list, x_is_int_dict, x_is_tup_bool, x_is_tup_int, x_is_tup_str, x_is_tup_tuple, x_is_tup_list, x_is_tup_dict, x_is_lst_bool, x_is_lst_int, x_is_lst_str, x_is_lst_tuple, x_is_lst_list, x_is_lst_dict, x_is_bl_bool, x_is_bl_int, x_is_bl_str, x_is_bl_tuple, x_is_bl_list, x_is_bl_dict, x_is_non_bool, x_is_non_int, x_is_non_str, x_is_non_tuple, x_is_non_list, x_is_non_dict, x_is_str_bool, x_is_str_int, x_is_str_str, x_is_str_tuple, x_is_str_list, x_is_str_dict, x_ite, x_itm, x_at0, x_at1, x_at2, x_addI, x_subI, x_pow18, x_mod, x_fdiv, x_sq, x_mul, x_mul', x_addT, x_addL, x_gt, x_ge, x_le, x_lt, eqD_int, neD_int, eqD_bool, neD_bool, getS, setS, List.map_cons, List.map_nil, List.length_cons, List.length_nil, List.cons_append, List.nil_append, List.replicate, Option.bind_some, Option.map_some, Option.bind_none, Option.map_none, if_true, if_false, ite_true, ite_false, reduceIte, Nat.reduceAdd, Nat.reduceSub, Nat.reduceLeDiff, Bool.false_eq_true, Nat.reduceEqDiff, Nat.le_refl, LIM, Bool.not_true, Bool.not_false, decide_true, decide_false, decide_eq_true_eq, Int.reduceEq, Int.reduceLT, Int.reduceLE, Int.reduceAdd, Int.reduceSub, Int.reduceNe, Int.reduceNeg, Int.cast_ofNat_Int, ne_eq, not_true_eq_false, not_false_eq_true])
theorem at_get {ds : List D} {i : Nat} (h : i < ds.length) : atI ds (i : Int) = some ds[i] := by
  rw [x_atN, List.getElem?_eq_getElem h]
theorem equal_self : ∀ (k : Nat) (d : D), flatD k d → m__law_equal (k + 1) [d, d] = some (.bool true)
  | k, .int i, _ => by
    show fnD 2 5 (S__law_equal (m__law_equal k)) _ = _
    unfold S__law_equal
    (simp only [x_seq, x_nx, x_rt, x_lnx, x_lct, x_lbk, x_lrt, x_bk, x_ct, x_nil, x_ret, x_set, x_asg, x_new, x_frz, x_if, x_drop, x_for, x_gN, x_gT, x_gsN, x_gsC, x_var, x_vvar, x_c, x_bin, x_un, x_of, x_tru, x_tand, x_tor, x_tnot, x_tT, x_and, x_or, x_not, x_eif, x_aN, x_aC, x_tup, x_lst, x_llst, x_call, x_eL, x_lseq, x_rng1, x_comp, x_comp2, x_app, x_ext, x_frzE, x_f1, x_f2, x_fn, x_start, x_rrt, x_rnx, all_D, any_D, x_bN, x_bC, x_asB, x_asI, x_truB, x_truI, x_seqL, x_seqT, x_lenL, x_lenT, x_tupL, x_tupT, x_int, x_wN, x_wC, x_ixT, x_ixL, x_isi, x_is_int_bool, x_is_int_int, x_is_int_str, x_is_int_tuple, x_is_int_list, x_is_int_dict, x_is_tup_bool, x_is_tup_int, x_is_tup_str, x_is_tup_tuple, x_is_tup_list, x_is_tup_dict, x_is_lst_bool, x_is_lst_int, x_is_lst_str, x_is_lst_tuple, x_is_lst_list, x_is_lst_dict, x_is_bl_bool, x_is_bl_int, x_is_bl_str, x_is_bl_tuple, x_is_bl_list, x_is_bl_dict, x_is_non_bool, x_is_non_int, x_is_non_str, x_is_non_tuple, x_is_non_list, x_is_non_dict, x_is_str_bool, x_is_str_int, x_is_str_str, x_is_str_tuple, x_is_str_list, x_is_str_dict, x_ite, x_itm, x_at0, x_at1, x_at2, x_addI, x_subI, x_pow18, x_mod, x_fdiv, x_sq, x_mul, x_mul', x_addT, x_addL, x_gt, x_ge, x_le, x_lt, eqD_int, neD_int, eqD_bool, neD_bool, getS, setS, List.map_cons, List.map_nil, List.length_cons, List.length_nil, List.cons_append, List.nil_append, List.replicate, Option.bind_some, Option.map_some, Option.bind_none, Option.map_none, if_true, if_false, ite_true, ite_false, reduceIte, Nat.reduceAdd, Nat.reduceSub, Nat.reduceLeDiff, Bool.false_eq_true, Nat.reduceEqDiff, Nat.le_refl, LIM, Bool.not_true, Bool.not_false, decide_true, decide_false, decide_eq_true_eq, Int.reduceEq, Int.reduceLT, Int.reduceLE, Int.reduceAdd, Int.reduceSub, Int.reduceNe, Int.reduceNeg, Int.cast_ofNat_Int, ne_eq, not_true_eq_false, not_false_eq_true])
    rw [kind_int]
    (simp only [x_seq, x_nx, x_rt, x_lnx, x_lct, x_lbk, x_lrt, x_bk, x_ct, x_nil, x_ret, x_set, x_asg, x_new, x_frz, x_if, x_drop, x_for, x_gN, x_gT, x_gsN, x_gsC, x_var, x_vvar, x_c, x_bin, x_un, x_of, x_tru, x_tand, x_tor, x_tnot, x_tT, x_and, x_or, x_not, x_eif, x_aN, x_aC, x_tup, x_lst, x_llst, x_call, x_eL, x_lseq, x_rng1, x_comp, x_comp2, x_app, x_ext, x_frzE, x_f1, x_f2, x_fn, x_start, x_rrt, x_rnx, all_D, any_D, x_bN, x_bC, x_asB, x_asI, x_truB, x_truI, x_seqL, x_seqT, x_lenL, x_lenT, x_tupL, x_tupT, x_int, x_wN, x_wC, x_ixT, x_ixL, x_isi, x_is_int_bool, x_is_int_int, x_is_int_str, x_is_int_tuple, x_is_int_list, x_is_int_dict, x_is_tup_bool, x_is_tup_int, x_is_tup_str, x_is_tup_tuple, x_is_tup_list, x_is_tup_dict, x_is_lst_bool, x_is_lst_int, x_is_lst_str, x_is_lst_tuple, x_is_lst_list, x_is_lst_dict, x_is_bl_bool, x_is_bl_int, x_is_bl_str, x_is_bl_tuple, x_is_bl_list, x_is_bl_dict, x_is_non_bool, x_is_non_int, x_is_non_str, x_is_non_tuple, x_is_non_list, x_is_non_dict, x_is_str_bool, x_is_str_int, x_is_str_str, x_is_str_tuple, x_is_str_list, x_is_str_dict, x_ite, x_itm, x_at0, x_at1, x_at2, x_addI, x_subI, x_pow18, x_mod, x_fdiv, x_sq, x_mul, x_mul', x_addT, x_addL, x_gt, x_ge, x_le, x_lt, eqD_int, neD_int, eqD_bool, neD_bool, getS, setS, List.map_cons, List.map_nil, List.length_cons, List.length_nil, List.cons_append, List.nil_append, List.replicate, Option.bind_some, Option.map_some, Option.bind_none, Option.map_none, if_true, if_false, ite_true, ite_false, reduceIte, Nat.reduceAdd, Nat.reduceSub, Nat.reduceLeDiff, Bool.false_eq_true, Nat.reduceEqDiff, Nat.le_refl, LIM, Bool.not_true, Bool.not_false, decide_true, decide_false, decide_eq_true_eq, Int.reduceEq, Int.reduceLT, Int.reduceLE, Int.reduceAdd, Int.reduceSub, Int.reduceNe, Int.reduceNeg, Int.cast_ofNat_Int, ne_eq, not_true_eq_false, not_false_eq_true])
  | k + 1, .tuple ds, h => by
    show fnD 2 5 (S__law_equal (m__law_equal (k + 1))) _ = _
    unfold S__law_equal
    (simp only [x_seq, x_nx, x_rt, x_lnx, x_lct, x_lbk, x_lrt, x_bk, x_ct, x_nil, x_ret, x_set, x_asg, x_new, x_frz, x_if, x_drop, x_for, x_gN, x_gT, x_gsN, x_gsC, x_var, x_vvar, x_c, x_bin, x_un, x_of, x_tru, x_tand, x_tor, x_tnot, x_tT, x_and, x_or, x_not, x_eif, x_aN, x_aC, x_tup, x_lst, x_llst, x_call, x_eL, x_lseq, x_rng1, x_comp, x_comp2, x_app, x_ext, x_frzE, x_f1, x_f2, x_fn, x_start, x_rrt, x_rnx, all_D, any_D, x_bN, x_bC, x_asB, x_asI, x_truB, x_truI, x_seqL, x_seqT, x_lenL, x_lenT, x_tupL, x_tupT, x_int, x_wN, x_wC, x_ixT, x_ixL, x_isi, x_is_int_bool, x_is_int_int, x_is_int_str, x_is_int_tuple, x_is_int_list, x_is_int_dict, x_is_tup_bool, x_is_tup_int, x_is_tup_str, x_is_tup_tuple, x_is_tup_list, x_is_tup_dict, x_is_lst_bool, x_is_lst_int, x_is_lst_str, x_is_lst_tuple, x_is_lst_list, x_is_lst_dict, x_is_bl_bool, x_is_bl_int, x_is_bl_str, x_is_bl_tuple, x_is_bl_list, x_is_bl_dict, x_is_non_bool, x_is_non_int, x_is_non_str, x_is_non_tuple, x_is_non_list, x_is_non_dict, x_is_str_bool, x_is_str_int, x_is_str_str, x_is_str_tuple, x_is_str_list, x_is_str_dict, x_ite, x_itm, x_at0, x_at1, x_at2, x_addI, x_subI, x_pow18, x_mod, x_fdiv, x_sq, x_mul, x_mul', x_addT, x_addL, x_gt, x_ge, x_le, x_lt, eqD_int, neD_int, eqD_bool, neD_bool, getS, setS, List.map_cons, List.map_nil, List.length_cons, List.length_nil, List.cons_append, List.nil_append, List.replicate, Option.bind_some, Option.map_some, Option.bind_none, Option.map_none, if_true, if_false, ite_true, ite_false, reduceIte, Nat.reduceAdd, Nat.reduceSub, Nat.reduceLeDiff, Bool.false_eq_true, Nat.reduceEqDiff, Nat.le_refl, LIM, Bool.not_true, Bool.not_false, decide_true, decide_false, decide_eq_true_eq, Int.reduceEq, Int.reduceLT, Int.reduceLE, Int.reduceAdd, Int.reduceSub, Int.reduceNe, Int.reduceNeg, Int.cast_ofNat_Int, ne_eq, not_true_eq_false, not_false_eq_true])
    rw [kind_tup]
    (simp only [x_seq, x_nx, x_rt, x_lnx, x_lct, x_lbk, x_lrt, x_bk, x_ct, x_nil, x_ret, x_set, x_asg, x_new, x_frz, x_if, x_drop, x_for, x_gN, x_gT, x_gsN, x_gsC, x_var, x_vvar, x_c, x_bin, x_un, x_of, x_tru, x_tand, x_tor, x_tnot, x_tT, x_and, x_or, x_not, x_eif, x_aN, x_aC, x_tup, x_lst, x_llst, x_call, x_eL, x_lseq, x_rng1, x_comp, x_comp2, x_app, x_ext, x_frzE, x_f1, x_f2, x_fn, x_start, x_rrt, x_rnx, all_D, any_D, x_bN, x_bC, x_asB, x_asI, x_truB, x_truI, x_seqL, x_seqT, x_lenL, x_lenT, x_tupL, x_tupT, x_int, x_wN, x_wC, x_ixT, x_ixL, x_isi, x_is_int_bool, x_is_int_int, x_is_int_str, x_is_int_tuple, x_is_int_list, x_is_int_dict, x_is_tup_bool, x_is_tup_int, x_is_tup_str, x_is_tup_tuple, x_is_tup_list, x_is_tup_dict, x_is_lst_bool, x_is_lst_int, x_is_lst_str, x_is_lst_tuple, x_is_lst_list, x_is_lst_dict, x_is_bl_bool, x_is_bl_int, x_is_bl_str, x_is_bl_tuple, x_is_bl_list, x_is_bl_dict, x_is_non_bool, x_is_non_int, x_is_non_str, x_is_non_tuple, x_is_non_list, x_is_non_dict, x_is_str_bool, x_is_str_int, x_is_str_str, x_is_str_tuple, x_is_str_list, x_is_str_dict, x_ite, x_itm, x_at0, x_at1, x_at2, x_addI, x_subI, x_pow18, x_mod, x_fdiv, x_sq, x_mul, x_mul', x_addT, x_addL, x_gt, x_ge, x_le, x_lt, eqD_int, neD_int, eqD_bool, neD_bool, getS, setS, List.map_cons, List.map_nil, List.length_cons, List.length_nil, List.cons_append, List.nil_append, List.replicate, Option.bind_some, Option.map_some, Option.bind_none, Option.map_none, if_true, if_false, ite_true, ite_false, reduceIte, Nat.reduceAdd, Nat.reduceSub, Nat.reduceLeDiff, Bool.false_eq_true, Nat.reduceEqDiff, Nat.le_refl, LIM, Bool.not_true, Bool.not_false, decide_true, decide_false, decide_eq_true_eq, Int.reduceEq, Int.reduceLT, Int.reduceLE, Int.reduceAdd, Int.reduceSub, Int.reduceNe, Int.reduceNeg, Int.cast_ofNat_Int, ne_eq, not_true_eq_false, not_false_eq_true])
    rw [rngD_nat h.1]
    (simp only [x_seq, x_nx, x_rt, x_lnx, x_lct, x_lbk, x_lrt, x_bk, x_ct, x_nil, x_ret, x_set, x_asg, x_new, x_frz, x_if, x_drop, x_for, x_gN, x_gT, x_gsN, x_gsC, x_var, x_vvar, x_c, x_bin, x_un, x_of, x_tru, x_tand, x_tor, x_tnot, x_tT, x_and, x_or, x_not, x_eif, x_aN, x_aC, x_tup, x_lst, x_llst, x_call, x_eL, x_lseq, x_rng1, x_comp, x_comp2, x_app, x_ext, x_frzE, x_f1, x_f2, x_fn, x_start, x_rrt, x_rnx, all_D, any_D, x_bN, x_bC, x_asB, x_asI, x_truB, x_truI, x_seqL, x_seqT, x_lenL, x_lenT, x_tupL, x_tupT, x_int, x_wN, x_wC, x_ixT, x_ixL, x_isi, x_is_int_bool, x_is_int_int, x_is_int_str, x_is_int_tuple, x_is_int_list, x_is_int_dict, x_is_tup_bool, x_is_tup_int, x_is_tup_str, x_is_tup_tuple, x_is_tup_list, x_is_tup_dict, x_is_lst_bool, x_is_lst_int, x_is_lst_str, x_is_lst_tuple, x_is_lst_list, x_is_lst_dict, x_is_bl_bool, x_is_bl_int, x_is_bl_str, x_is_bl_tuple, x_is_bl_list, x_is_bl_dict, x_is_non_bool, x_is_non_int, x_is_non_str, x_is_non_tuple, x_is_non_list, x_is_non_dict, x_is_str_bool, x_is_str_int, x_is_str_str, x_is_str_tuple, x_is_str_list, x_is_str_dict, x_ite, x_itm, x_at0, x_at1, x_at2, x_addI, x_subI, x_pow18, x_mod, x_fdiv, x_sq, x_mul, x_mul', x_addT, x_addL, x_gt, x_ge, x_le, x_lt, eqD_int, neD_int, eqD_bool, neD_bool, getS, setS, List.map_cons, List.map_nil, List.length_cons, List.length_nil, List.cons_append, List.nil_append, List.replicate, Option.bind_some, Option.map_some, Option.bind_none, Option.map_none, if_true, if_false, ite_true, ite_false, reduceIte, Nat.reduceAdd, Nat.reduceSub, Nat.reduceLeDiff, Bool.false_eq_true, Nat.reduceEqDiff, Nat.le_refl, LIM, Bool.not_true, Bool.not_false, decide_true, decide_false, decide_eq_true_eq, Int.reduceEq, Int.reduceLT, Int.reduceLE, Int.reduceAdd, Int.reduceSub, Int.reduceNe, Int.reduceNeg, Int.cast_ofNat_Int, ne_eq, not_true_eq_false, not_false_eq_true])
    rw [compD_map PyData.int PyData.int (fun _ => false) (rng ds.length) fun x hx => by
      have hx := mem_rng.mp hx
      obtain ⟨i, rfl⟩ : ∃ i : Nat, x = (i : Int) := ⟨x.toNat, by omega⟩
      have hi : i < ds.length := by omega
      refine ⟨_, rfl, ?_, fun z => by cases z⟩
      (simp only [x_seq, x_nx, x_rt, x_lnx, x_lct, x_lbk, x_lrt, x_bk, x_ct, x_nil, x_ret, x_set, x_asg, x_new, x_frz, x_if, x_drop, x_for, x_gN, x_gT, x_gsN, x_gsC, x_var, x_vvar, x_c, x_bin, x_un, x_of, x_tru, x_tand, x_tor, x_tnot, x_tT, x_and, x_or, x_not, x_eif, x_aN, x_aC, x_tup, x_lst, x_llst, x_call, x_eL, x_lseq, x_rng1, x_comp, x_comp2, x_app, x_ext, x_frzE, x_f1, x_f2, x_fn, x_start, x_rrt, x_rnx, all_D, any_D, x_bN, x_bC, x_asB, x_asI, x_truB, x_truI, x_seqL, x_seqT, x_lenL, x_lenT, x_tupL, x_tupT, x_int, x_wN, x_wC, x_ixT, x_ixL, x_isi, x_is_int_bool, x_is_int_int, x_is_int_str, x_is_int_tuple, x_is_int_list, x_is_int_dict, x_is_tup_bool, x_is_tup_int, x_is_tup_str, x_is_tup_tuple, x_is_tup_list, x_is_tup_dict, x_is_lst_bool, x_is_lst_int, x_is_lst_str, x_is_lst_tuple, x_is_lst_list, x_is_lst_dict, x_is_bl_bool, x_is_bl_int, x_is_bl_str, x_is_bl_tuple, x_is_bl_list, x_is_bl_dict, x_is_non_bool, x_is_non_int, x_is_non_str, x_is_non_tuple, x_is_non_list, x_is_non_dict, x_is_str_bool, x_is_str_int, x_is_str_str, x_is_str_tuple, x_is_str_list, x_is_str_dict, x_ite, x_itm, x_at0, x_at1, x_at2, x_addI, x_subI, x_pow18, x_mod, x_fdiv, x_sq, x_mul, x_mul', x_addT, x_addL, x_gt, x_ge, x_le, x_lt, eqD_int, neD_int, eqD_bool, neD_bool, getS, setS, List.map_cons, List.map_nil, List.length_cons, List.length_nil, List.cons_append, List.nil_append, List.replicate, Option.bind_some, Option.map_some, Option.bind_none, Option.map_none, if_true, if_false, ite_true, ite_false, reduceIte, Nat.reduceAdd, Nat.reduceSub, Nat.reduceLeDiff, Bool.false_eq_true, Nat.reduceEqDiff, Nat.le_refl, LIM, Bool.not_true, Bool.not_false, decide_true, decide_false, decide_eq_true_eq, Int.reduceEq, Int.reduceLT, Int.reduceLE, Int.reduceAdd, Int.reduceSub, Int.reduceNe, Int.reduceNeg, Int.cast_ofNat_Int, ne_eq, not_true_eq_false, not_false_eq_true])
      rw [at_get hi]
      (simp only [x_seq, x_nx, x_rt, x_lnx, x_lct, x_lbk, x_lrt, x_bk, x_ct, x_nil, x_ret, x_set, x_asg, x_new, x_frz, x_if, x_drop, x_for, x_gN, x_gT, x_gsN, x_gsC, x_var, x_vvar, x_c, x_bin, x_un, x_of, x_tru, x_tand, x_tor, x_tnot, x_tT, x_and, x_or, x_not, x_eif, x_aN, x_aC, x_tup, x_lst, x_llst, x_call, x_eL, x_lseq, x_rng1, x_comp, x_comp2, x_app, x_ext, x_frzE, x_f1, x_f2, x_fn, x_start, x_rrt, x_rnx, all_D, any_D, x_bN, x_bC, x_asB, x_asI, x_truB, x_truI, x_seqL, x_seqT, x_lenL, x_lenT, x_tupL, x_tupT, x_int, x_wN, x_wC, x_ixT, x_ixL, x_isi, x_is_int_bool, x_is_int_int, x_is_int_str, x_is_int_tuple, x_is_int_list, x_is_int_dict, x_is_tup_bool, x_is_tup_int, x_is_tup_str, x_is_tup_tuple, x_is_tup_list, x_is_tup_dict, x_is_lst_bool, x_is_lst_int, x_is_lst_str, x_is_lst_tuple, x_is_lst_list, x_is_lst_dict, x_is_bl_bool, x_is_bl_int, x_is_bl_str, x_is_bl_tuple, x_is_bl_list, x_is_bl_dict, x_is_non_bool, x_is_non_int, x_is_non_str, x_is_non_tuple, x_is_non_list, x_is_non_dict, x_is_str_bool, x_is_str_int, x_is_str_str, x_is_str_tuple, x_is_str_list, x_is_str_dict, x_ite, x_itm, x_at0, x_at1, x_at2, x_addI, x_subI, x_pow18, x_mod, x_fdiv, x_sq, x_mul, x_mul', x_addT, x_addL, x_gt, x_ge, x_le, x_lt, eqD_int, neD_int, eqD_bool, neD_bool, getS, setS, List.map_cons, List.map_nil, List.length_cons, List.length_nil, List.cons_append, List.nil_append, List.replicate, Option.bind_some, Option.map_some, Option.bind_none, Option.map_none, if_true, if_false, ite_true, ite_false, reduceIte, Nat.reduceAdd, Nat.reduceSub, Nat.reduceLeDiff, Bool.false_eq_true, Nat.reduceEqDiff, Nat.le_refl, LIM, Bool.not_true, Bool.not_false, decide_true, decide_false, decide_eq_true_eq, Int.reduceEq, Int.reduceLT, Int.reduceLE, Int.reduceAdd, Int.reduceSub, Int.reduceNe, Int.reduceNeg, Int.cast_ofNat_Int, ne_eq, not_true_eq_false, not_false_eq_true])
      rw [equal_self k ds[i] (h.2 _ (List.getElem_mem hi))]
      (simp only [x_seq, x_nx, x_rt, x_lnx, x_lct, x_lbk, x_lrt, x_bk, x_ct, x_nil, x_ret, x_set, x_asg, x_new, x_frz, x_if, x_drop, x_for, x_gN, x_gT, x_gsN, x_gsC, x_var, x_vvar, x_c, x_bin, x_un, x_of, x_tru, x_tand, x_tor, x_tnot, x_tT, x_and, x_or, x_not, x_eif, x_aN, x_aC, x_tup, x_lst, x_llst, x_call, x_eL, x_lseq, x_rng1, x_comp, x_comp2, x_app, x_ext, x_frzE, x_f1, x_f2, x_fn, x_start, x_rrt, x_rnx, all_D, any_D, x_bN, x_bC, x_asB, x_asI, x_truB, x_truI, x_seqL, x_seqT, x_lenL, x_lenT, x_tupL, x_tupT, x_int, x_wN, x_wC, x_ixT, x_ixL, x_isi, x_is_int_bool, x_is_int_int, x_is_int_str, x_is_int_tuple, x_is_int_list, x_is_int_dict, x_is_tup_bool, x_is_tup_int, x_is_tup_str, x_is_tup_tuple, x_is_tup_list, x_is_tup_dict, x_is_lst_bool, x_is_lst_int, x_is_lst_str, x_is_lst_tuple, x_is_lst_list, x_is_lst_dict, x_is_bl_bool, x_is_bl_int, x_is_bl_str, x_is_bl_tuple, x_is_bl_list, x_is_bl_dict, x_is_non_bool, x_is_non_int, x_is_non_str, x_is_non_tuple, x_is_non_list, x_is_non_dict, x_is_str_bool, x_is_str_int, x_is_str_str, x_is_str_tuple, x_is_str_list, x_is_str_dict, x_ite, x_itm, x_at0, x_at1, x_at2, x_addI, x_subI, x_pow18, x_mod, x_fdiv, x_sq, x_mul, x_mul', x_addT, x_addL, x_gt, x_ge, x_le, x_lt, eqD_int, neD_int, eqD_bool, neD_bool, getS, setS, List.map_cons, List.map_nil, List.length_cons, List.length_nil, List.cons_append, List.nil_append, List.replicate, Option.bind_some, Option.map_some, Option.bind_none, Option.map_none, if_true, if_false, ite_true, ite_false, reduceIte, Nat.reduceAdd, Nat.reduceSub, Nat.reduceLeDiff, Bool.false_eq_true, Nat.reduceEqDiff, Nat.le_refl, LIM, Bool.not_true, Bool.not_false, decide_true, decide_false, decide_eq_true_eq, Int.reduceEq, Int.reduceLT, Int.reduceLE, Int.reduceAdd, Int.reduceSub, Int.reduceNe, Int.reduceNeg, Int.cast_ofNat_Int, ne_eq, not_true_eq_false, not_false_eq_true])]
    rw [show (rng ds.length).filter (fun _ => false) = [] from List.filter_eq_nil_iff.mpr fun _ _ z => by cases z]
    (simp only [x_seq, x_nx, x_rt, x_lnx, x_lct, x_lbk, x_lrt, x_bk, x_ct, x_nil, x_ret, x_set, x_asg, x_new, x_frz, x_if, x_drop, x_for, x_gN, x_gT, x_gsN, x_gsC, x_var, x_vvar, x_c, x_bin, x_un, x_of, x_tru, x_tand, x_tor, x_tnot, x_tT, x_and, x_or, x_not, x_eif, x_aN, x_aC, x_tup, x_lst, x_llst, x_call, x_eL, x_lseq, x_rng1, x_comp, x_comp2, x_app, x_ext, x_frzE, x_f1, x_f2, x_fn, x_start, x_rrt, x_rnx, all_D, any_D, x_bN, x_bC, x_asB, x_asI, x_truB, x_truI, x_seqL, x_seqT, x_lenL, x_lenT, x_tupL, x_tupT, x_int, x_wN, x_wC, x_ixT, x_ixL, x_isi, x_is_int_bool, x_is_int_int, x_is_int_str, x_is_int_tuple, x_is_int_list, x_is_int_dict, x_is_tup_bool, x_is_tup_int, x_is_tup_str, x_is_tup_tuple, x_is_tup_list, x_is_tup_dict, x_is_lst_bool, x_is_lst_int, x_is_lst_str, x_is_lst_tuple, x_is_lst_list, x_is_lst_dict, x_is_bl_bool, x_is_bl_int, x_is_bl_str, x_is_bl_tuple, x_is_bl_list, x_is_bl_dict, x_is_non_bool, x_is_non_int, x_is_non_str, x_is_non_tuple, x_is_non_list, x_is_non_dict, x_is_str_bool, x_is_str_int, x_is_str_str, x_is_str_tuple, x_is_str_list, x_is_str_dict, x_ite, x_itm, x_at0, x_at1, x_at2, x_addI, x_subI, x_pow18, x_mod, x_fdiv, x_sq, x_mul, x_mul', x_addT, x_addL, x_gt, x_ge, x_le, x_lt, eqD_int, neD_int, eqD_bool, neD_bool, getS, setS, List.map_cons, List.map_nil, List.length_cons, List.length_nil, List.cons_append, List.nil_append, List.replicate, Option.bind_some, Option.map_some, Option.bind_none, Option.map_none, if_true, if_false, ite_true, ite_false, reduceIte, Nat.reduceAdd, Nat.reduceSub, Nat.reduceLeDiff, Bool.false_eq_true, Nat.reduceEqDiff, Nat.le_refl, LIM, Bool.not_true, Bool.not_false, decide_true, decide_false, decide_eq_true_eq, Int.reduceEq, Int.reduceLT, Int.reduceLE, Int.reduceAdd, Int.reduceSub, Int.reduceNe, Int.reduceNeg, Int.cast_ofNat_Int, ne_eq, not_true_eq_false, not_false_eq_true])
  | k + 1, .list ds, h => by
    show fnD 2 5 (S__law_equal (m__law_equal (k + 1))) _ = _
    unfold S__law_equal
    (simp only [x_seq, x_nx, x_rt, x_lnx, x_lct, x_lbk, x_lrt, x_bk, x_ct, x_nil, x_ret, x_set, x_asg, x_new, x_frz, x_if, x_drop, x_for, x_gN, x_gT, x_gsN, x_gsC, x_var, x_vvar, x_c, x_bin, x_un, x_of, x_tru, x_tand, x_tor, x_tnot, x_tT, x_and, x_or, x_not, x_eif, x_aN, x_aC, x_tup, x_lst, x_llst, x_call, x_eL, x_lseq, x_rng1, x_comp, x_comp2, x_app, x_ext, x_frzE, x_f1, x_f2, x_fn, x_start, x_rrt, x_rnx, all_D, any_D, x_bN, x_bC, x_asB, x_asI, x_truB, x_truI, x_seqL, x_seqT, x_lenL, x_lenT, x_tupL, x_tupT, x_int, x_wN, x_wC, x_ixT, x_ixL, x_isi, x_is_int_bool, x_is_int_int, x_is_int_str, x_is_int_tuple, x_is_int_list, x_is_int_dict, x_is_tup_bool, x_is_tup_int, x_is_tup_str, x_is_tup_tuple, x_is_tup_list, x_is_tup_dict, x_is_lst_bool, x_is_lst_int, x_is_lst_str, x_is_lst_tuple, x_is_lst_list, x_is_lst_dict, x_is_bl_bool, x_is_bl_int, x_is_bl_str, x_is_bl_tuple, x_is_bl_list, x_is_bl_dict, x_is_non_bool, x_is_non_int, x_is_non_str, x_is_non_tuple, x_is_non_list, x_is_non_dict, x_is_str_bool, x_is_str_int, x_is_str_str, x_is_str_tuple, x_is_str_list, x_is_str_dict, x_ite, x_itm, x_at0, x_at1, x_at2, x_addI, x_subI, x_pow18, x_mod, x_fdiv, x_sq, x_mul, x_mul', x_addT, x_addL, x_gt, x_ge, x_le, x_lt, eqD_int, neD_int, eqD_bool, neD_bool, getS, setS, List.map_cons, List.map_nil, List.length_cons, List.length_nil, List.cons_append, List.nil_append, List.replicate, Option.bind_some, Option.map_some, Option.bind_none, Option.map_none, if_true, if_false, ite_true, ite_false, reduceIte, Nat.reduceAdd, Nat.reduceSub, Nat.reduceLeDiff, Bool.false_eq_true, Nat.reduceEqDiff, Nat.le_refl, LIM, Bool.not_true, Bool.not_false, decide_true, decide_false, decide_eq_true_eq, Int.reduceEq, Int.reduceLT, Int.reduceLE, Int.reduceAdd, Int.reduceSub, Int.reduceNe, Int.reduceNeg, Int.cast_ofNat_Int, ne_eq, not_true_eq_false, not_false_eq_true])
    rw [kind_lst]
    (simp only [x_seq, x_nx, x_rt, x_lnx, x_lct, x_lbk, x_lrt, x_bk, x_ct, x_nil, x_ret, x_set, x_asg, x_new, x_frz, x_if, x_drop, x_for, x_gN, x_gT, x_gsN, x_gsC, x_var, x_vvar, x_c, x_bin, x_un, x_of, x_tru, x_tand, x_tor, x_tnot, x_tT, x_and, x_or, x_not, x_eif, x_aN, x_aC, x_tup, x_lst, x_llst, x_call, x_eL, x_lseq, x_rng1, x_comp, x_comp2, x_app, x_ext, x_frzE, x_f1, x_f2, x_fn, x_start, x_rrt, x_rnx, all_D, any_D, x_bN, x_bC, x_asB, x_asI, x_truB, x_truI, x_seqL, x_seqT, x_lenL, x_lenT, x_tupL, x_tupT, x_int, x_wN, x_wC, x_ixT, x_ixL, x_isi, x_is_int_bool, x_is_int_int, x_is_int_str, x_is_int_tuple, x_is_int_list, x_is_int_dict, x_is_tup_bool, x_is_tup_int, x_is_tup_str, x_is_tup_tuple, x_is_tup_list, x_is_tup_dict, x_is_lst_bool, x_is_lst_int, x_is_lst_str, x_is_lst_tuple, x_is_lst_list, x_is_lst_dict, x_is_bl_bool, x_is_bl_int, x_is_bl_str, x_is_bl_tuple, x_is_bl_list, x_is_bl_dict, x_is_non_bool, x_is_non_int, x_is_non_str, x_is_non_tuple, x_is_non_list, x_is_non_dict, x_is_str_bool, x_is_str_int, x_is_str_str, x_is_str_tuple, x_is_str_list, x_is_str_dict, x_ite, x_itm, x_at0, x_at1, x_at2, x_addI, x_subI, x_pow18, x_mod, x_fdiv, x_sq, x_mul, x_mul', x_addT, x_addL, x_gt, x_ge, x_le, x_lt, eqD_int, neD_int, eqD_bool, neD_bool, getS, setS, List.map_cons, List.map_nil, List.length_cons, List.length_nil, List.cons_append, List.nil_append, List.replicate, Option.bind_some, Option.map_some, Option.bind_none, Option.map_none, if_true, if_false, ite_true, ite_false, reduceIte, Nat.reduceAdd, Nat.reduceSub, Nat.reduceLeDiff, Bool.false_eq_true, Nat.reduceEqDiff, Nat.le_refl, LIM, Bool.not_true, Bool.not_false, decide_true, decide_false, decide_eq_true_eq, Int.reduceEq, Int.reduceLT, Int.reduceLE, Int.reduceAdd, Int.reduceSub, Int.reduceNe, Int.reduceNeg, Int.cast_ofNat_Int, ne_eq, not_true_eq_false, not_false_eq_true])
    rw [rngD_nat h.1]
    (simp only [x_seq, x_nx, x_rt, x_lnx, x_lct, x_lbk, x_lrt, x_bk, x_ct, x_nil, x_ret, x_set, x_asg, x_new, x_frz, x_if, x_drop, x_for, x_gN, x_gT, x_gsN, x_gsC, x_var, x_vvar, x_c, x_bin, x_un, x_of, x_tru, x_tand, x_tor, x_tnot, x_tT, x_and, x_or, x_not, x_eif, x_aN, x_aC, x_tup, x_lst, x_llst, x_call, x_eL, x_lseq, x_rng1, x_comp, x_comp2, x_app, x_ext, x_frzE, x_f1, x_f2, x_fn, x_start, x_rrt, x_rnx, all_D, any_D, x_bN, x_bC, x_asB, x_asI, x_truB, x_truI, x_seqL, x_seqT, x_lenL, x_lenT, x_tupL, x_tupT, x_int, x_wN, x_wC, x_ixT, x_ixL, x_isi, x_is_int_bool, x_is_int_int, x_is_int_str, x_is_int_tuple, x_is_int_list, x_is_int_dict, x_is_tup_bool, x_is_tup_int, x_is_tup_str, x_is_tup_tuple, x_is_tup_list, x_is_tup_dict, x_is_lst_bool, x_is_lst_int, x_is_lst_str, x_is_lst_tuple, x_is_lst_list, x_is_lst_dict, x_is_bl_bool, x_is_bl_int, x_is_bl_str, x_is_bl_tuple, x_is_bl_list, x_is_bl_dict, x_is_non_bool, x_is_non_int, x_is_non_str, x_is_non_tuple, x_is_non_list, x_is_non_dict, x_is_str_bool, x_is_str_int, x_is_str_str, x_is_str_tuple, x_is_str_list, x_is_str_dict, x_ite, x_itm, x_at0, x_at1, x_at2, x_addI, x_subI, x_pow18, x_mod, x_fdiv, x_sq, x_mul, x_mul', x_addT, x_addL, x_gt, x_ge, x_le, x_lt, eqD_int, neD_int, eqD_bool, neD_bool, getS, setS, List.map_cons, List.map_nil, List.length_cons, List.length_nil, List.cons_append, List.nil_append, List.replicate, Option.bind_some, Option.map_some, Option.bind_none, Option.map_none, if_true, if_false, ite_true, ite_false, reduceIte, Nat.reduceAdd, Nat.reduceSub, Nat.reduceLeDiff, Bool.false_eq_true, Nat.reduceEqDiff, Nat.le_refl, LIM, Bool.not_true, Bool.not_false, decide_true, decide_false, decide_eq_true_eq, Int.reduceEq, Int.reduceLT, Int.reduceLE, Int.reduceAdd, Int.reduceSub, Int.reduceNe, Int.reduceNeg, Int.cast_ofNat_Int, ne_eq, not_true_eq_false, not_false_eq_true])
    rw [compD_map PyData.int PyData.int (fun _ => false) (rng ds.length) fun x hx => by
      have hx := mem_rng.mp hx
      obtain ⟨i, rfl⟩ : ∃ i : Nat, x = (i : Int) := ⟨x.toNat, by omega⟩
      have hi : i < ds.length := by omega
      refine ⟨_, rfl, ?_, fun z => by cases z⟩
      (simp only [x_seq, x_nx, x_rt, x_lnx, x_lct, x_lbk, x_lrt, x_bk, x_ct, x_nil, x_ret, x_set, x_asg, x_new, x_frz, x_if, x_drop, x_for, x_gN, x_gT, x_gsN, x_gsC, x_var, x_vvar, x_c, x_bin, x_un, x_of, x_tru, x_tand, x_tor, x_tnot, x_tT, x_and, x_or, x_not, x_eif, x_aN, x_aC, x_tup, x_lst, x_llst, x_call, x_eL, x_lseq, x_rng1, x_comp, x_comp2, x_app, x_ext, x_frzE, x_f1, x_f2, x_fn, x_start, x_rrt, x_rnx, all_D, any_D, x_bN, x_bC, x_asB, x_asI, x_truB, x_truI, x_seqL, x_seqT, x_lenL, x_lenT, x_tupL, x_tupT, x_int, x_wN, x_wC, x_ixT, x_ixL, x_isi, x_is_int_bool, x_is_int_int, x_is_int_str, x_is_int_tuple, x_is_int_list, x_is_int_dict, x_is_tup_bool, x_is_tup_int, x_is_tup_str, x_is_tup_tuple, x_is_tup_list, x_is_tup_dict, x_is_lst_bool, x_is_lst_int, x_is_lst_str, x_is_lst_tuple, x_is_lst_list, x_is_lst_dict, x_is_bl_bool, x_is_bl_int, x_is_bl_str, x_is_bl_tuple, x_is_bl_list, x_is_bl_dict, x_is_non_bool, x_is_non_int, x_is_non_str, x_is_non_tuple, x_is_non_list, x_is_non_dict, x_is_str_bool, x_is_str_int, x_is_str_str, x_is_str_tuple, x_is_str_list, x_is_str_dict, x_ite, x_itm, x_at0, x_at1, x_at2, x_addI, x_subI, x_pow18, x_mod, x_fdiv, x_sq, x_mul, x_mul', x_addT, x_addL, x_gt, x_ge, x_le, x_lt, eqD_int, neD_int, eqD_bool, neD_bool, getS, setS, List.map_cons, List.map_nil, List.length_cons, List.length_nil, List.cons_append, List.nil_append, List.replicate, Option.bind_some, Option.map_some, Option.bind_none, Option.map_none, if_true, if_false, ite_true, ite_false, reduceIte, Nat.reduceAdd, Nat.reduceSub, Nat.reduceLeDiff, Bool.false_eq_true, Nat.reduceEqDiff, Nat.le_refl, LIM, Bool.not_true, Bool.not_false, decide_true, decide_false, decide_eq_true_eq, Int.reduceEq, Int.reduceLT, Int.reduceLE, Int.reduceAdd, Int.reduceSub, Int.reduceNe, Int.reduceNeg, Int.cast_ofNat_Int, ne_eq, not_true_eq_false, not_false_eq_true])
      rw [at_get hi]
      (simp only [x_seq, x_nx, x_rt, x_lnx, x_lct, x_lbk, x_lrt, x_bk, x_ct, x_nil, x_ret, x_set, x_asg, x_new, x_frz, x_if, x_drop, x_for, x_gN, x_gT, x_gsN, x_gsC, x_var, x_vvar, x_c, x_bin, x_un, x_of, x_tru, x_tand, x_tor, x_tnot, x_tT, x_and, x_or, x_not, x_eif, x_aN, x_aC, x_tup, x_lst, x_llst, x_call, x_eL, x_lseq, x_rng1, x_comp, x_comp2, x_app, x_ext, x_frzE, x_f1, x_f2, x_fn, x_start, x_rrt, x_rnx, all_D, any_D, x_bN, x_bC, x_asB, x_asI, x_truB, x_truI, x_seqL, x_seqT, x_lenL, x_lenT, x_tupL, x_tupT, x_int, x_wN, x_wC, x_ixT, x_ixL, x_isi, x_is_int_bool, x_is_int_int, x_is_int_str, x_is_int_tuple, x_is_int_list, x_is_int_dict, x_is_tup_bool, x_is_tup_int, x_is_tup_str, x_is_tup_tuple, x_is_tup_list, x_is_tup_dict, x_is_lst_bool, x_is_lst_int, x_is_lst_str, x_is_lst_tuple, x_is_lst_list, x_is_lst_dict, x_is_bl_bool, x_is_bl_int, x_is_bl_str, x_is_bl_tuple, x_is_bl_list, x_is_bl_dict, x_is_non_bool, x_is_non_int, x_is_non_str, x_is_non_tuple, x_is_non_list, x_is_non_dict, x_is_str_bool, x_is_str_int, x_is_str_str, x_is_str_tuple, x_is_str_list, x_is_str_dict, x_ite, x_itm, x_at0, x_at1, x_at2, x_addI, x_subI, x_pow18, x_mod, x_fdiv, x_sq, x_mul, x_mul', x_addT, x_addL, x_gt, x_ge, x_le, x_lt, eqD_int, neD_int, eqD_bool, neD_bool, getS, setS, List.map_cons, List.map_nil, List.length_cons, List.length_nil, List.cons_append, List.nil_append, List.replicate, Option.bind_some, Option.map_some, Option.bind_none, Option.map_none, if_true, if_false, ite_true, ite_false, reduceIte, Nat.reduceAdd, Nat.reduceSub, Nat.reduceLeDiff, Bool.false_eq_true, Nat.reduceEqDiff, Nat.le_refl, LIM, Bool.not_true, Bool.not_false, decide_true, decide_false, decide_eq_true_eq, Int.reduceEq, Int.reduceLT, Int.reduceLE, Int.reduceAdd, Int.reduceSub, Int.reduceNe, Int.reduceNeg, Int.cast_ofNat_Int, ne_eq, not_true_eq_false, not_false_eq_true])
      rw [equal_self k ds[i] (h.2 _ (List.getElem_mem hi))]
      (simp only [x_seq, x_nx, x_rt, x_lnx, x_lct, x_lbk, x_lrt, x_bk, x_ct, x_nil, x_ret, x_set, x_asg, x_new, x_frz, x_if, x_drop, x_for, x_gN, x_gT, x_gsN, x_gsC, x_var, x_vvar, x_c, x_bin, x_un, x_of, x_tru, x_tand, x_tor, x_tnot, x_tT, x_and, x_or, x_not, x_eif, x_aN, x_aC, x_tup, x_lst, x_llst, x_call, x_eL, x_lseq, x_rng1, x_comp, x_comp2, x_app, x_ext, x_frzE, x_f1, x_f2, x_fn, x_start, x_rrt, x_rnx, all_D, any_D, x_bN, x_bC, x_asB, x_asI, x_truB, x_truI, x_seqL, x_seqT, x_lenL, x_lenT, x_tupL, x_tupT, x_int, x_wN, x_wC, x_ixT, x_ixL, x_isi, x_is_int_bool, x_is_int_int, x_is_int_str, x_is_int_tuple, x_is_int_list, x_is_int_dict, x_is_tup_bool, x_is_tup_int, x_is_tup_str, x_is_tup_tuple, x_is_tup_list, x_is_tup_dict, x_is_lst_bool, x_is_lst_int, x_is_lst_str, x_is_lst_tuple, x_is_lst_list, x_is_lst_dict, x_is_bl_bool, x_is_bl_int, x_is_bl_str, x_is_bl_tuple, x_is_bl_list, x_is_bl_dict, x_is_non_bool, x_is_non_int, x_is_non_str, x_is_non_tuple, x_is_non_list, x_is_non_dict, x_is_str_bool, x_is_str_int, x_is_str_str, x_is_str_tuple, x_is_str_list, x_is_str_dict, x_ite, x_itm, x_at0, x_at1, x_at2, x_addI, x_subI, x_pow18, x_mod, x_fdiv, x_sq, x_mul, x_mul', x_addT, x_addL, x_gt, x_ge, x_le, x_lt, eqD_int, neD_int, eqD_bool, neD_bool, getS, setS, List.map_cons, List.map_nil, List.length_cons, List.length_nil, List.cons_append, List.nil_append, List.replicate, Option.bind_some, Option.map_some, Option.bind_none, Option.map_none, if_true, if_false, ite_true, ite_false, reduceIte, Nat.reduceAdd, Nat.reduceSub, Nat.reduceLeDiff, Bool.false_eq_true, Nat.reduceEqDiff, Nat.le_refl, LIM, Bool.not_true, Bool.not_false, decide_true, decide_false, decide_eq_true_eq, Int.reduceEq, Int.reduceLT, Int.reduceLE, Int.reduceAdd, Int.reduceSub, Int.reduceNe, Int.reduceNeg, Int.cast_ofNat_Int, ne_eq, not_true_eq_false, not_false_eq_true])]
    rw [show (rng ds.length).filter (fun _ => false) = [] from List.filter_eq_nil_iff.mpr fun _ _ z => by cases z]
    (simp only [x_seq, x_nx, x_rt, x_lnx, x_lct, x_lbk, x_lrt, x_bk, x_ct, x_nil, x_ret, x_set, x_asg, x_new, x_frz, x_if, x_drop, x_for, x_gN, x_gT, x_gsN, x_gsC, x_var, x_vvar, x_c, x_bin, x_un, x_of, x_tru, x_tand, x_tor, x_tnot, x_tT, x_and, x_or, x_not, x_eif, x_aN, x_aC, x_tup, x_lst, x_llst, x_call, x_eL, x_lseq, x_rng1, x_comp, x_comp2, x_app, x_ext, x_frzE, x_f1, x_f2, x_fn, x_start, x_rrt, x_rnx, all_D, any_D, x_bN, x_bC, x_asB, x_asI, x_truB, x_truI, x_seqL, x_seqT, x_lenL, x_lenT, x_tupL, x_tupT, x_int, x_wN, x_wC, x_ixT, x_ixL, x_isi, x_is_int_bool, x_is_int_int, x_is_int_str, x_is_int_tuple, x_is_int_list, x_is_int_dict, x_is_tup_bool, x_is_tup_int, x_is_tup_str, x_is_tup_tuple, x_is_tup_list, x_is_tup_dict, x_is_lst_bool, x_is_lst_int, x_is_lst_str, x_is_lst_tuple, x_is_lst_list, x_is_lst_dict, x_is_bl_bool, x_is_bl_int, x_is_bl_str, x_is_bl_tuple, x_is_bl_list, x_is_bl_dict, x_is_non_bool, x_is_non_int, x_is_non_str, x_is_non_tuple, x_is_non_list, x_is_non_dict, x_is_str_bool, x_is_str_int, x_is_str_str, x_is_str_tuple, x_is_str_list, x_is_str_dict, x_ite, x_itm, x_at0, x_at1, x_at2, x_addI, x_subI, x_pow18, x_mod, x_fdiv, x_sq, x_mul, x_mul', x_addT, x_addL, x_gt, x_ge, x_le, x_lt, eqD_int, neD_int, eqD_bool, neD_bool, getS, setS, List.map_cons, List.map_nil, List.length_cons, List.length_nil, List.cons_append, List.nil_append, List.replicate, Option.bind_some, Option.map_some, Option.bind_none, Option.map_none, if_true, if_false, ite_true, ite_false, reduceIte, Nat.reduceAdd, Nat.reduceSub, Nat.reduceLeDiff, Bool.false_eq_true, Nat.reduceEqDiff, Nat.le_refl, LIM, Bool.not_true, Bool.not_false, decide_true, decide_false, decide_eq_true_eq, Int.reduceEq, Int.reduceLT, Int.reduceLE, Int.reduceAdd, Int.reduceSub, Int.reduceNe, Int.reduceNeg, Int.cast_ofNat_Int, ne_eq, not_true_eq_false, not_false_eq_true])
  | 0, .tuple _, h => by cases h
  | 0, .list _, h => by cases h
  | 0, .none, h => by cases h
  | 0, .bool _, h => by cases h
  | 0, .str _, h => by cases h
  | 0, .dict _, h => by cases h
  | _ + 1, .none, h => by cases h
  | _ + 1, .bool _, h => by cases h
  | _ + 1, .str _, h => by cases h
  | _ + 1, .dict _, h => by cases h
/-! ### the law's worlds -/
theorem line3 : m__law_line [.int 3] = some (encW ⟨3, [], [], [(0, 1), (0, 2), (1, 2)]⟩) := by kernel_rfl
theorem line4 : m__law_line [.int 4] = some (encW ⟨4, [], [], [(0, 1), (0, 2), (0, 3), (1, 2), (1, 3), (2, 3)]⟩) := by kernel_rfl
theorem sort_pairs (l : List (Int × Int)) : sortD (.list (l.map encP)) = some (.list ((srt l).map encP)) := sort_DL (α := Int × Int) l (.inl fun _ => rfl)
theorem ring3 : m__law_ring [.int 3] = some (encW ⟨3, [], [], srt [(0, 1), (1, 2), (2, 0)]⟩) := by
  unfold m__law_ring S__law_ring
  (simp only [x_seq, x_nx, x_rt, x_lnx, x_lct, x_lbk, x_lrt, x_bk, x_ct, x_nil, x_ret, x_set, x_asg, x_new, x_frz, x_if, x_drop, x_for, x_gN, x_gT, x_gsN, x_gsC, x_var, x_vvar, x_c, x_bin, x_un, x_of, x_tru, x_tand, x_tor, x_tnot, x_tT, x_and, x_or, x_not, x_eif, x_aN, x_aC, x_tup, x_lst, x_llst, x_call, x_eL, x_lseq, x_rng1, x_comp, x_comp2, x_app, x_ext, x_frzE, x_f1, x_f2, x_fn, x_start, x_rrt, x_rnx, all_D, any_D, x_bN, x_bC, x_asB, x_asI, x_truB, x_truI, x_seqL, x_seqT, x_lenL, x_lenT, x_tupL, x_tupT, x_int, x_wN, x_wC, x_ixT, x_ixL, x_isi, x_is_int_bool, x_is_int_int, x_is_int_str, x_is_int_tuple, x_is_int_list, x_is_int_dict, x_is_tup_bool, x_is_tup_int, x_is_tup_str, x_is_tup_tuple, x_is_tup_list, x_is_tup_dict, x_is_lst_bool, x_is_lst_int, x_is_lst_str, x_is_lst_tuple, x_is_lst_list, x_is_lst_dict, x_is_bl_bool, x_is_bl_int, x_is_bl_str, x_is_bl_tuple, x_is_bl_list, x_is_bl_dict, x_is_non_bool, x_is_non_int, x_is_non_str, x_is_non_tuple, x_is_non_list, x_is_non_dict, x_is_str_bool, x_is_str_int, x_is_str_str, x_is_str_tuple, x_is_str_list, x_is_str_dict, x_ite, x_itm, x_at0, x_at1, x_at2, x_addI, x_subI, x_pow18, x_mod, x_fdiv, x_sq, x_mul, x_mul', x_addT, x_addL, x_gt, x_ge, x_le, x_lt, eqD_int, neD_int, eqD_bool, neD_bool, getS, setS, List.map_cons, List.map_nil, List.length_cons, List.length_nil, List.cons_append, List.nil_append, List.replicate, Option.bind_some, Option.map_some, Option.bind_none, Option.map_none, if_true, if_false, ite_true, ite_false, reduceIte, Nat.reduceAdd, Nat.reduceSub, Nat.reduceLeDiff, Bool.false_eq_true, Nat.reduceEqDiff, Nat.le_refl, LIM, Bool.not_true, Bool.not_false, decide_true, decide_false, decide_eq_true_eq, Int.reduceEq, Int.reduceLT, Int.reduceLE, Int.reduceAdd, Int.reduceSub, Int.reduceNe, Int.reduceNeg, Int.cast_ofNat_Int, ne_eq, not_true_eq_false, not_false_eq_true])
  rw [show rngD 0 3 = some [.int 0, .int 1, .int 2] from rfl]
  (repeat (first | (simp only [x_seq, x_nx, x_rt, x_lnx, x_lct, x_lbk, x_lrt, x_bk, x_ct, x_nil, x_ret, x_set, x_asg, x_new, x_frz, x_if, x_drop, x_for, x_gN, x_gT, x_gsN, x_gsC, x_var, x_vvar, x_c, x_bin, x_un, x_of, x_tru, x_tand, x_tor, x_tnot, x_tT, x_and, x_or, x_not, x_eif, x_aN, x_aC, x_tup, x_lst, x_llst, x_call, x_eL, x_lseq, x_rng1, x_comp, x_comp2, x_app, x_ext, x_frzE, x_f1, x_f2, x_fn, x_start, x_rrt, x_rnx, all_D, any_D, x_bN, x_bC, x_asB, x_asI, x_truB, x_truI, x_seqL, x_seqT, x_lenL, x_lenT, x_tupL, x_tupT, x_int, x_wN, x_wC, x_ixT, x_ixL, x_isi, x_is_int_bool, x_is_int_int, x_is_int_str, x_is_int_tuple, x_is_int_list, x_is_int_dict, x_is_tup_bool, x_is_tup_int, x_is_tup_str, x_is_tup_tuple, x_is_tup_list, x_is_tup_dict, x_is_lst_bool, x_is_lst_int, x_is_lst_str, x_is_lst_tuple, x_is_lst_list, x_is_lst_dict, x_is_bl_bool, x_is_bl_int, x_is_bl_str, x_is_bl_tuple, x_is_bl_list, x_is_bl_dict, x_is_non_bool, x_is_non_int, x_is_non_str, x_is_non_tuple, x_is_non_list, x_is_non_dict, x_is_str_bool, x_is_str_int, x_is_str_str, x_is_str_tuple, x_is_str_list, x_is_str_dict, x_ite, x_itm, x_at0, x_at1, x_at2, x_addI, x_subI, x_pow18, x_mod, x_fdiv, x_sq, x_mul, x_mul', x_addT, x_addL, x_gt, x_ge, x_le, x_lt, eqD_int, neD_int, eqD_bool, neD_bool, getS, setS, List.map_cons, List.map_nil, List.length_cons, List.length_nil, List.cons_append, List.nil_append, List.replicate, Option.bind_some, Option.map_some, Option.bind_none, Option.map_none, if_true, if_false, ite_true, ite_false, reduceIte, Nat.reduceAdd, Nat.reduceSub, Nat.reduceLeDiff, Bool.false_eq_true, Nat.reduceEqDiff, Nat.le_refl, LIM, Bool.not_true, Bool.not_false, decide_true, decide_false, decide_eq_true_eq, Int.reduceEq, Int.reduceLT, Int.reduceLE, Int.reduceAdd, Int.reduceSub, Int.reduceNe, Int.reduceNeg, Int.cast_ofNat_Int, ne_eq, not_true_eq_false, not_false_eq_true]) | simp only [inD_int, notInD_int, inD_pair, notInD_pair, compD, x_any]))
  rw [show [PyData.tuple [PyData.int 0, PyData.int (1 % 3)], PyData.tuple [PyData.int 1, PyData.int (2 % 3)], PyData.tuple [PyData.int 2, PyData.int (3 % 3)]] = ([(0, 1), (1, 2), (2, 0)] : List (Int × Int)).map encP from rfl, sort_pairs]
  (simp only [x_seq, x_nx, x_rt, x_lnx, x_lct, x_lbk, x_lrt, x_bk, x_ct, x_nil, x_ret, x_set, x_asg, x_new, x_frz, x_if, x_drop, x_for, x_gN, x_gT, x_gsN, x_gsC, x_var, x_vvar, x_c, x_bin, x_un, x_of, x_tru, x_tand, x_tor, x_tnot, x_tT, x_and, x_or, x_not, x_eif, x_aN, x_aC, x_tup, x_lst, x_llst, x_call, x_eL, x_lseq, x_rng1, x_comp, x_comp2, x_app, x_ext, x_frzE, x_f1, x_f2, x_fn, x_start, x_rrt, x_rnx, all_D, any_D, x_bN, x_bC, x_asB, x_asI, x_truB, x_truI, x_seqL, x_seqT, x_lenL, x_lenT, x_tupL, x_tupT, x_int, x_wN, x_wC, x_ixT, x_ixL, x_isi, x_is_int_bool, x_is_int_int, x_is_int_str, x_is_int_tuple, x_is_int_list, x_is_int_dict, x_is_tup_bool, x_is_tup_int, x_is_tup_str, x_is_tup_tuple, x_is_tup_list, x_is_tup_dict, x_is_lst_bool, x_is_lst_int, x_is_lst_str, x_is_lst_tuple, x_is_lst_list, x_is_lst_dict, x_is_bl_bool, x_is_bl_int, x_is_bl_str, x_is_bl_tuple, x_is_bl_list, x_is_bl_dict, x_is_non_bool, x_is_non_int, x_is_non_str, x_is_non_tuple, x_is_non_list, x_is_non_dict, x_is_str_bool, x_is_str_int, x_is_str_str, x_is_str_tuple, x_is_str_list, x_is_str_dict, x_ite, x_itm, x_at0, x_at1, x_at2, x_addI, x_subI, x_pow18, x_mod, x_fdiv, x_sq, x_mul, x_mul', x_addT, x_addL, x_gt, x_ge, x_le, x_lt, eqD_int, neD_int, eqD_bool, neD_bool, getS, setS, List.map_cons, List.map_nil, List.length_cons, List.length_nil, List.cons_append, List.nil_append, List.replicate, Option.bind_some, Option.map_some, Option.bind_none, Option.map_none, if_true, if_false, ite_true, ite_false, reduceIte, Nat.reduceAdd, Nat.reduceSub, Nat.reduceLeDiff, Bool.false_eq_true, Nat.reduceEqDiff, Nat.le_refl, LIM, Bool.not_true, Bool.not_false, decide_true, decide_false, decide_eq_true_eq, Int.reduceEq, Int.reduceLT, Int.reduceLE, Int.reduceAdd, Int.reduceSub, Int.reduceNe, Int.reduceNeg, Int.cast_ofNat_Int, ne_eq, not_true_eq_false, not_false_eq_true])
  rfl
theorem ring4 : m__law_ring [.int 4] = some (encW ⟨4, [], [], srt [(0, 1), (1, 2), (2, 3), (3, 0)]⟩) := by
  unfold m__law_ring S__law_ring
  (simp only [x_seq, x_nx, x_rt, x_lnx, x_lct, x_lbk, x_lrt, x_bk, x_ct, x_nil, x_ret, x_set, x_asg, x_new, x_frz, x_if, x_drop, x_for, x_gN, x_gT, x_gsN, x_gsC, x_var, x_vvar, x_c, x_bin, x_un, x_of, x_tru, x_tand, x_tor, x_tnot, x_tT, x_and, x_or, x_not, x_eif, x_aN, x_aC, x_tup, x_lst, x_llst, x_call, x_eL, x_lseq, x_rng1, x_comp, x_comp2, x_app, x_ext, x_frzE, x_f1, x_f2, x_fn, x_start, x_rrt, x_rnx, all_D, any_D, x_bN, x_bC, x_asB, x_asI, x_truB, x_truI, x_seqL, x_seqT, x_lenL, x_lenT, x_tupL, x_tupT, x_int, x_wN, x_wC, x_ixT, x_ixL, x_isi, x_is_int_bool, x_is_int_int, x_is_int_str, x_is_int_tuple, x_is_int_list, x_is_int_dict, x_is_tup_bool, x_is_tup_int, x_is_tup_str, x_is_tup_tuple, x_is_tup_list, x_is_tup_dict, x_is_lst_bool, x_is_lst_int, x_is_lst_str, x_is_lst_tuple, x_is_lst_list, x_is_lst_dict, x_is_bl_bool, x_is_bl_int, x_is_bl_str, x_is_bl_tuple, x_is_bl_list, x_is_bl_dict, x_is_non_bool, x_is_non_int, x_is_non_str, x_is_non_tuple, x_is_non_list, x_is_non_dict, x_is_str_bool, x_is_str_int, x_is_str_str, x_is_str_tuple, x_is_str_list, x_is_str_dict, x_ite, x_itm, x_at0, x_at1, x_at2, x_addI, x_subI, x_pow18, x_mod, x_fdiv, x_sq, x_mul, x_mul', x_addT, x_addL, x_gt, x_ge, x_le, x_lt, eqD_int, neD_int, eqD_bool, neD_bool, getS, setS, List.map_cons, List.map_nil, List.length_cons, List.length_nil, List.cons_append, List.nil_append, List.replicate, Option.bind_some, Option.map_some, Option.bind_none, Option.map_none, if_true, if_false, ite_true, ite_false, reduceIte, Nat.reduceAdd, Nat.reduceSub, Nat.reduceLeDiff, Bool.false_eq_true, Nat.reduceEqDiff, Nat.le_refl, LIM, Bool.not_true, Bool.not_false, decide_true, decide_false, decide_eq_true_eq, Int.reduceEq, Int.reduceLT, Int.reduceLE, Int.reduceAdd, Int.reduceSub, Int.reduceNe, Int.reduceNeg, Int.cast_ofNat_Int, ne_eq, not_true_eq_false, not_false_eq_true])
  rw [show rngD 0 4 = some [.int 0, .int 1, .int 2, .int 3] from rfl]
  (repeat (first | (simp only [x_seq, x_nx, x_rt, x_lnx, x_lct, x_lbk, x_lrt, x_bk, x_ct, x_nil, x_ret, x_set, x_asg, x_new, x_frz, x_if, x_drop, x_for, x_gN, x_gT, x_gsN, x_gsC, x_var, x_vvar, x_c, x_bin, x_un, x_of, x_tru, x_tand, x_tor, x_tnot, x_tT, x_and, x_or, x_not, x_eif, x_aN, x_aC, x_tup, x_lst, x_llst, x_call, x_eL, x_lseq, x_rng1, x_comp, x_comp2, x_app, x_ext, x_frzE, x_f1, x_f2, x_fn, x_start, x_rrt, x_rnx, all_D, any_D, x_bN, x_bC, x_asB, x_asI, x_truB, x_truI, x_seqL, x_seqT, x_lenL, x_lenT, x_tupL, x_tupT, x_int, x_wN, x_wC, x_ixT, x_ixL, x_isi, x_is_int_bool, x_is_int_int, x_is_int_str, x_is_int_tuple, x_is_int_list, x_is_int_dict, x_is_tup_bool, x_is_tup_int, x_is_tup_str, x_is_tup_tuple, x_is_tup_list, x_is_tup_dict, x_is_lst_bool, x_is_lst_int, x_is_lst_str, x_is_lst_tuple, x_is_lst_list, x_is_lst_dict, x_is_bl_bool, x_is_bl_int, x_is_bl_str, x_is_bl_tuple, x_is_bl_list, x_is_bl_dict, x_is_non_bool, x_is_non_int, x_is_non_str, x_is_non_tuple, x_is_non_list, x_is_non_dict, x_is_str_bool, x_is_str_int, x_is_str_str, x_is_str_tuple, x_is_str_list, x_is_str_dict, x_ite, x_itm, x_at0, x_at1, x_at2, x_addI, x_subI, x_pow18, x_mod, x_fdiv, x_sq, x_mul, x_mul', x_addT, x_addL, x_gt, x_ge, x_le, x_lt, eqD_int, neD_int, eqD_bool, neD_bool, getS, setS, List.map_cons, List.map_nil, List.length_cons, List.length_nil, List.cons_append, List.nil_append, List.replicate, Option.bind_some, Option.map_some, Option.bind_none, Option.map_none, if_true, if_false, ite_true, ite_false, reduceIte, Nat.reduceAdd, Nat.reduceSub, Nat.reduceLeDiff, Bool.false_eq_true, Nat.reduceEqDiff, Nat.le_refl, LIM, Bool.not_true, Bool.not_false, decide_true, decide_false, decide_eq_true_eq, Int.reduceEq, Int.reduceLT, Int.reduceLE, Int.reduceAdd, Int.reduceSub, Int.reduceNe, Int.reduceNeg, Int.cast_ofNat_Int, ne_eq, not_true_eq_false, not_false_eq_true]) | simp only [inD_int, notInD_int, inD_pair, notInD_pair, compD, x_any]))
  rw [show [PyData.tuple [PyData.int 0, PyData.int (1 % 4)], PyData.tuple [PyData.int 1, PyData.int (2 % 4)], PyData.tuple [PyData.int 2, PyData.int (3 % 4)], PyData.tuple [PyData.int 3, PyData.int (4 % 4)]] = ([(0, 1), (1, 2), (2, 3), (3, 0)] : List (Int × Int)).map encP from rfl, sort_pairs]
  (simp only [x_seq, x_nx, x_rt, x_lnx, x_lct, x_lbk, x_lrt, x_bk, x_ct, x_nil, x_ret, x_set, x_asg, x_new, x_frz, x_if, x_drop, x_for, x_gN, x_gT, x_gsN, x_gsC, x_var, x_vvar, x_c, x_bin, x_un, x_of, x_tru, x_tand, x_tor, x_tnot, x_tT, x_and, x_or, x_not, x_eif, x_aN, x_aC, x_tup, x_lst, x_llst, x_call, x_eL, x_lseq, x_rng1, x_comp, x_comp2, x_app, x_ext, x_frzE, x_f1, x_f2, x_fn, x_start, x_rrt, x_rnx, all_D, any_D, x_bN, x_bC, x_asB, x_asI, x_truB, x_truI, x_seqL, x_seqT, x_lenL, x_lenT, x_tupL, x_tupT, x_int, x_wN, x_wC, x_ixT, x_ixL, x_isi, x_is_int_bool, x_is_int_int, x_is_int_str, x_is_int_tuple, x_is_int_list, x_is_int_dict, x_is_tup_bool, x_is_tup_int, x_is_tup_str, x_is_tup_tuple, x_is_tup_list, x_is_tup_dict, x_is_lst_bool, x_is_lst_int, x_is_lst_str, x_is_lst_tuple, x_is_lst_list, x_is_lst_dict, x_is_bl_bool, x_is_bl_int, x_is_bl_str, x_is_bl_tuple, x_is_bl_list, x_is_bl_dict, x_is_non_bool, x_is_non_int, x_is_non_str, x_is_non_tuple, x_is_non_list, x_is_non_dict, x_is_str_bool, x_is_str_int, x_is_str_str, x_is_str_tuple, x_is_str_list, x_is_str_dict, x_ite, x_itm, x_at0, x_at1, x_at2, x_addI, x_subI, x_pow18, x_mod, x_fdiv, x_sq, x_mul, x_mul', x_addT, x_addL, x_gt, x_ge, x_le, x_lt, eqD_int, neD_int, eqD_bool, neD_bool, getS, setS, List.map_cons, List.map_nil, List.length_cons, List.length_nil, List.cons_append, List.nil_append, List.replicate, Option.bind_some, Option.map_some, Option.bind_none, Option.map_none, if_true, if_false, ite_true, ite_false, reduceIte, Nat.reduceAdd, Nat.reduceSub, Nat.reduceLeDiff, Bool.false_eq_true, Nat.reduceEqDiff, Nat.le_refl, LIM, Bool.not_true, Bool.not_false, decide_true, decide_false, decide_eq_true_eq, Int.reduceEq, Int.reduceLT, Int.reduceLE, Int.reduceAdd, Int.reduceSub, Int.reduceNe, Int.reduceNeg, Int.cast_ofNat_Int, ne_eq, not_true_eq_false, not_false_eq_true])
  rfl
def both (n : Nat) (es : List (Int × Int)) : Wd := ⟨n, [], [], srt (es ++ es.map fun p => (p.2, p.1))⟩
theorem both_eval (n : Nat) (es : List (Int × Int)) (h : es.length ≤ 1000) : m__law_both_ways [.int n, encPs es] = some (encW (both n es)) := by
  unfold m__law_both_ways S__law_both_ways encPs
  (simp only [x_seq, x_nx, x_rt, x_lnx, x_lct, x_lbk, x_lrt, x_bk, x_ct, x_nil, x_ret, x_set, x_asg, x_new, x_frz, x_if, x_drop, x_for, x_gN, x_gT, x_gsN, x_gsC, x_var, x_vvar, x_c, x_bin, x_un, x_of, x_tru, x_tand, x_tor, x_tnot, x_tT, x_and, x_or, x_not, x_eif, x_aN, x_aC, x_tup, x_lst, x_llst, x_call, x_eL, x_lseq, x_rng1, x_comp, x_comp2, x_app, x_ext, x_frzE, x_f1, x_f2, x_fn, x_start, x_rrt, x_rnx, all_D, any_D, x_bN, x_bC, x_asB, x_asI, x_truB, x_truI, x_seqL, x_seqT, x_lenL, x_lenT, x_tupL, x_tupT, x_int, x_wN, x_wC, x_ixT, x_ixL, x_isi, x_is_int_bool, x_is_int_int, x_is_int_str, x_is_int_tuple, x_is_int_list, x_is_int_dict, x_is_tup_bool, x_is_tup_int, x_is_tup_str, x_is_tup_tuple, x_is_tup_list, x_is_tup_dict, x_is_lst_bool, x_is_lst_int, x_is_lst_str, x_is_lst_tuple, x_is_lst_list, x_is_lst_dict, x_is_bl_bool, x_is_bl_int, x_is_bl_str, x_is_bl_tuple, x_is_bl_list, x_is_bl_dict, x_is_non_bool, x_is_non_int, x_is_non_str, x_is_non_tuple, x_is_non_list, x_is_non_dict, x_is_str_bool, x_is_str_int, x_is_str_str, x_is_str_tuple, x_is_str_list, x_is_str_dict, x_ite, x_itm, x_at0, x_at1, x_at2, x_addI, x_subI, x_pow18, x_mod, x_fdiv, x_sq, x_mul, x_mul', x_addT, x_addL, x_gt, x_ge, x_le, x_lt, eqD_int, neD_int, eqD_bool, neD_bool, getS, setS, List.map_cons, List.map_nil, List.length_cons, List.length_nil, List.cons_append, List.nil_append, List.replicate, Option.bind_some, Option.map_some, Option.bind_none, Option.map_none, if_true, if_false, ite_true, ite_false, reduceIte, Nat.reduceAdd, Nat.reduceSub, Nat.reduceLeDiff, Bool.false_eq_true, Nat.reduceEqDiff, Nat.le_refl, LIM, Bool.not_true, Bool.not_false, decide_true, decide_false, decide_eq_true_eq, Int.reduceEq, Int.reduceLT, Int.reduceLE, Int.reduceAdd, Int.reduceSub, Int.reduceNe, Int.reduceNeg, Int.cast_ofNat_Int, ne_eq, not_true_eq_false, not_false_eq_true])
  rw [compD_all encP encP es fun x hx => ⟨_, rfl, by (simp only [x_seq, x_nx, x_rt, x_lnx, x_lct, x_lbk, x_lrt, x_bk, x_ct, x_nil, x_ret, x_set, x_asg, x_new, x_frz, x_if, x_drop, x_for, x_gN, x_gT, x_gsN, x_gsC, x_var, x_vvar, x_c, x_bin, x_un, x_of, x_tru, x_tand, x_tor, x_tnot, x_tT, x_and, x_or, x_not, x_eif, x_aN, x_aC, x_tup, x_lst, x_llst, x_call, x_eL, x_lseq, x_rng1, x_comp, x_comp2, x_app, x_ext, x_frzE, x_f1, x_f2, x_fn, x_start, x_rrt, x_rnx, all_D, any_D, x_bN, x_bC, x_asB, x_asI, x_truB, x_truI, x_seqL, x_seqT, x_lenL, x_lenT, x_tupL, x_tupT, x_int, x_wN, x_wC, x_ixT, x_ixL, x_isi, x_is_int_bool, x_is_int_int, x_is_int_str, x_is_int_tuple, x_is_int_list, x_is_int_dict, x_is_tup_bool, x_is_tup_int, x_is_tup_str, x_is_tup_tuple, x_is_tup_list, x_is_tup_dict, x_is_lst_bool, x_is_lst_int, x_is_lst_str, x_is_lst_tuple, x_is_lst_list, x_is_lst_dict, x_is_bl_bool, x_is_bl_int, x_is_bl_str, x_is_bl_tuple, x_is_bl_list, x_is_bl_dict, x_is_non_bool, x_is_non_int, x_is_non_str, x_is_non_tuple, x_is_non_list, x_is_non_dict, x_is_str_bool, x_is_str_int, x_is_str_str, x_is_str_tuple, x_is_str_list, x_is_str_dict, x_ite, x_itm, x_at0, x_at1, x_at2, x_addI, x_subI, x_pow18, x_mod, x_fdiv, x_sq, x_mul, x_mul', x_addT, x_addL, x_gt, x_ge, x_le, x_lt, eqD_int, neD_int, eqD_bool, neD_bool, getS, setS, List.map_cons, List.map_nil, List.length_cons, List.length_nil, List.cons_append, List.nil_append, List.replicate, Option.bind_some, Option.map_some, Option.bind_none, Option.map_none, if_true, if_false, ite_true, ite_false, reduceIte, Nat.reduceAdd, Nat.reduceSub, Nat.reduceLeDiff, Bool.false_eq_true, Nat.reduceEqDiff, Nat.le_refl, LIM, Bool.not_true, Bool.not_false, decide_true, decide_false, decide_eq_true_eq, Int.reduceEq, Int.reduceLT, Int.reduceLE, Int.reduceAdd, Int.reduceSub, Int.reduceNe, Int.reduceNeg, Int.cast_ofNat_Int, ne_eq, not_true_eq_false, not_false_eq_true])⟩]
  (simp only [x_seq, x_nx, x_rt, x_lnx, x_lct, x_lbk, x_lrt, x_bk, x_ct, x_nil, x_ret, x_set, x_asg, x_new, x_frz, x_if, x_drop, x_for, x_gN, x_gT, x_gsN, x_gsC, x_var, x_vvar, x_c, x_bin, x_un, x_of, x_tru, x_tand, x_tor, x_tnot, x_tT, x_and, x_or, x_not, x_eif, x_aN, x_aC, x_tup, x_lst, x_llst, x_call, x_eL, x_lseq, x_rng1, x_comp, x_comp2, x_app, x_ext, x_frzE, x_f1, x_f2, x_fn, x_start, x_rrt, x_rnx, all_D, any_D, x_bN, x_bC, x_asB, x_asI, x_truB, x_truI, x_seqL, x_seqT, x_lenL, x_lenT, x_tupL, x_tupT, x_int, x_wN, x_wC, x_ixT, x_ixL, x_isi, x_is_int_bool, x_is_int_int, x_is_int_str, x_is_int_tuple, x_is_int_list, x_is_int_dict, x_is_tup_bool, x_is_tup_int, x_is_tup_str, x_is_tup_tuple, x_is_tup_list, x_is_tup_dict, x_is_lst_bool, x_is_lst_int, x_is_lst_str, x_is_lst_tuple, x_is_lst_list, x_is_lst_dict, x_is_bl_bool, x_is_bl_int, x_is_bl_str, x_is_bl_tuple, x_is_bl_list, x_is_bl_dict, x_is_non_bool, x_is_non_int, x_is_non_str, x_is_non_tuple, x_is_non_list, x_is_non_dict, x_is_str_bool, x_is_str_int, x_is_str_str, x_is_str_tuple, x_is_str_list, x_is_str_dict, x_ite, x_itm, x_at0, x_at1, x_at2, x_addI, x_subI, x_pow18, x_mod, x_fdiv, x_sq, x_mul, x_mul', x_addT, x_addL, x_gt, x_ge, x_le, x_lt, eqD_int, neD_int, eqD_bool, neD_bool, getS, setS, List.map_cons, List.map_nil, List.length_cons, List.length_nil, List.cons_append, List.nil_append, List.replicate, Option.bind_some, Option.map_some, Option.bind_none, Option.map_none, if_true, if_false, ite_true, ite_false, reduceIte, Nat.reduceAdd, Nat.reduceSub, Nat.reduceLeDiff, Bool.false_eq_true, Nat.reduceEqDiff, Nat.le_refl, LIM, Bool.not_true, Bool.not_false, decide_true, decide_false, decide_eq_true_eq, Int.reduceEq, Int.reduceLT, Int.reduceLE, Int.reduceAdd, Int.reduceSub, Int.reduceNe, Int.reduceNeg, Int.cast_ofNat_Int, ne_eq, not_true_eq_false, not_false_eq_true])
  rw [compD_all encP (fun p : Int × Int => encP (p.2, p.1)) es fun x hx => ⟨_, rfl, by (simp only [x_seq, x_nx, x_rt, x_lnx, x_lct, x_lbk, x_lrt, x_bk, x_ct, x_nil, x_ret, x_set, x_asg, x_new, x_frz, x_if, x_drop, x_for, x_gN, x_gT, x_gsN, x_gsC, x_var, x_vvar, x_c, x_bin, x_un, x_of, x_tru, x_tand, x_tor, x_tnot, x_tT, x_and, x_or, x_not, x_eif, x_aN, x_aC, x_tup, x_lst, x_llst, x_call, x_eL, x_lseq, x_rng1, x_comp, x_comp2, x_app, x_ext, x_frzE, x_f1, x_f2, x_fn, x_start, x_rrt, x_rnx, all_D, any_D, x_bN, x_bC, x_asB, x_asI, x_truB, x_truI, x_seqL, x_seqT, x_lenL, x_lenT, x_tupL, x_tupT, x_int, x_wN, x_wC, x_ixT, x_ixL, x_isi, x_is_int_bool, x_is_int_int, x_is_int_str, x_is_int_tuple, x_is_int_list, x_is_int_dict, x_is_tup_bool, x_is_tup_int, x_is_tup_str, x_is_tup_tuple, x_is_tup_list, x_is_tup_dict, x_is_lst_bool, x_is_lst_int, x_is_lst_str, x_is_lst_tuple, x_is_lst_list, x_is_lst_dict, x_is_bl_bool, x_is_bl_int, x_is_bl_str, x_is_bl_tuple, x_is_bl_list, x_is_bl_dict, x_is_non_bool, x_is_non_int, x_is_non_str, x_is_non_tuple, x_is_non_list, x_is_non_dict, x_is_str_bool, x_is_str_int, x_is_str_str, x_is_str_tuple, x_is_str_list, x_is_str_dict, x_ite, x_itm, x_at0, x_at1, x_at2, x_addI, x_subI, x_pow18, x_mod, x_fdiv, x_sq, x_mul, x_mul', x_addT, x_addL, x_gt, x_ge, x_le, x_lt, eqD_int, neD_int, eqD_bool, neD_bool, getS, setS, List.map_cons, List.map_nil, List.length_cons, List.length_nil, List.cons_append, List.nil_append, List.replicate, Option.bind_some, Option.map_some, Option.bind_none, Option.map_none, if_true, if_false, ite_true, ite_false, reduceIte, Nat.reduceAdd, Nat.reduceSub, Nat.reduceLeDiff, Bool.false_eq_true, Nat.reduceEqDiff, Nat.le_refl, LIM, Bool.not_true, Bool.not_false, decide_true, decide_false, decide_eq_true_eq, Int.reduceEq, Int.reduceLT, Int.reduceLE, Int.reduceAdd, Int.reduceSub, Int.reduceNe, Int.reduceNeg, Int.cast_ofNat_Int, ne_eq, not_true_eq_false, not_false_eq_true]); rfl⟩]
  (simp only [x_seq, x_nx, x_rt, x_lnx, x_lct, x_lbk, x_lrt, x_bk, x_ct, x_nil, x_ret, x_set, x_asg, x_new, x_frz, x_if, x_drop, x_for, x_gN, x_gT, x_gsN, x_gsC, x_var, x_vvar, x_c, x_bin, x_un, x_of, x_tru, x_tand, x_tor, x_tnot, x_tT, x_and, x_or, x_not, x_eif, x_aN, x_aC, x_tup, x_lst, x_llst, x_call, x_eL, x_lseq, x_rng1, x_comp, x_comp2, x_app, x_ext, x_frzE, x_f1, x_f2, x_fn, x_start, x_rrt, x_rnx, all_D, any_D, x_bN, x_bC, x_asB, x_asI, x_truB, x_truI, x_seqL, x_seqT, x_lenL, x_lenT, x_tupL, x_tupT, x_int, x_wN, x_wC, x_ixT, x_ixL, x_isi, x_is_int_bool, x_is_int_int, x_is_int_str, x_is_int_tuple, x_is_int_list, x_is_int_dict, x_is_tup_bool, x_is_tup_int, x_is_tup_str, x_is_tup_tuple, x_is_tup_list, x_is_tup_dict, x_is_lst_bool, x_is_lst_int, x_is_lst_str, x_is_lst_tuple, x_is_lst_list, x_is_lst_dict, x_is_bl_bool, x_is_bl_int, x_is_bl_str, x_is_bl_tuple, x_is_bl_list, x_is_bl_dict, x_is_non_bool, x_is_non_int, x_is_non_str, x_is_non_tuple, x_is_non_list, x_is_non_dict, x_is_str_bool, x_is_str_int, x_is_str_str, x_is_str_tuple, x_is_str_list, x_is_str_dict, x_ite, x_itm, x_at0, x_at1, x_at2, x_addI, x_subI, x_pow18, x_mod, x_fdiv, x_sq, x_mul, x_mul', x_addT, x_addL, x_gt, x_ge, x_le, x_lt, eqD_int, neD_int, eqD_bool, neD_bool, getS, setS, List.map_cons, List.map_nil, List.length_cons, List.length_nil, List.cons_append, List.nil_append, List.replicate, Option.bind_some, Option.map_some, Option.bind_none, Option.map_none, if_true, if_false, ite_true, ite_false, reduceIte, Nat.reduceAdd, Nat.reduceSub, Nat.reduceLeDiff, Bool.false_eq_true, Nat.reduceEqDiff, Nat.le_refl, LIM, Bool.not_true, Bool.not_false, decide_true, decide_false, decide_eq_true_eq, Int.reduceEq, Int.reduceLT, Int.reduceLE, Int.reduceAdd, Int.reduceSub, Int.reduceNe, Int.reduceNeg, Int.cast_ofNat_Int, ne_eq, not_true_eq_false, not_false_eq_true])
  rw [if_pos (by rw [List.length_map, List.length_map]; omega)]
  rw [show es.map encP ++ es.map (fun p => encP (p.2, p.1)) = (es ++ es.map fun p => (p.2, p.1)).map encP by rw [List.map_append, List.map_map]; rfl, sort_pairs]
  (simp only [x_seq, x_nx, x_rt, x_lnx, x_lct, x_lbk, x_lrt, x_bk, x_ct, x_nil, x_ret, x_set, x_asg, x_new, x_frz, x_if, x_drop, x_for, x_gN, x_gT, x_gsN, x_gsC, x_var, x_vvar, x_c, x_bin, x_un, x_of, x_tru, x_tand, x_tor, x_tnot, x_tT, x_and, x_or, x_not, x_eif, x_aN, x_aC, x_tup, x_lst, x_llst, x_call, x_eL, x_lseq, x_rng1, x_comp, x_comp2, x_app, x_ext, x_frzE, x_f1, x_f2, x_fn, x_start, x_rrt, x_rnx, all_D, any_D, x_bN, x_bC, x_asB, x_asI, x_truB, x_truI, x_seqL, x_seqT, x_lenL, x_lenT, x_tupL, x_tupT, x_int, x_wN, x_wC, x_ixT, x_ixL, x_isi, x_is_int_bool, x_is_int_int, x_is_int_str, x_is_int_tuple, x_is_int_list, x_is_int_dict, x_is_tup_bool, x_is_tup_int, x_is_tup_str, x_is_tup_tuple, x_is_tup_list, x_is_tup_dict, x_is_lst_bool, x_is_lst_int, x_is_lst_str, x_is_lst_tuple, x_is_lst_list, x_is_lst_dict, x_is_bl_bool, x_is_bl_int, x_is_bl_str, x_is_bl_tuple, x_is_bl_list, x_is_bl_dict, x_is_non_bool, x_is_non_int, x_is_non_str, x_is_non_tuple, x_is_non_list, x_is_non_dict, x_is_str_bool, x_is_str_int, x_is_str_str, x_is_str_tuple, x_is_str_list, x_is_str_dict, x_ite, x_itm, x_at0, x_at1, x_at2, x_addI, x_subI, x_pow18, x_mod, x_fdiv, x_sq, x_mul, x_mul', x_addT, x_addL, x_gt, x_ge, x_le, x_lt, eqD_int, neD_int, eqD_bool, neD_bool, getS, setS, List.map_cons, List.map_nil, List.length_cons, List.length_nil, List.cons_append, List.nil_append, List.replicate, Option.bind_some, Option.map_some, Option.bind_none, Option.map_none, if_true, if_false, ite_true, ite_false, reduceIte, Nat.reduceAdd, Nat.reduceSub, Nat.reduceLeDiff, Bool.false_eq_true, Nat.reduceEqDiff, Nat.le_refl, LIM, Bool.not_true, Bool.not_false, decide_true, decide_false, decide_eq_true_eq, Int.reduceEq, Int.reduceLT, Int.reduceLE, Int.reduceAdd, Int.reduceSub, Int.reduceNe, Int.reduceNeg, Int.cast_ofNat_Int, ne_eq, not_true_eq_false, not_false_eq_true])
  rfl
def specials : List Wd := [⟨3, [], [], [(0, 1), (0, 2), (1, 2)]⟩, ⟨4, [], [], [(0, 1), (0, 2), (0, 3), (1, 2), (1, 3), (2, 3)]⟩, ⟨3, [], [], srt [(0, 1), (1, 2), (2, 0)]⟩, ⟨4, [], [], srt [(0, 1), (1, 2), (2, 3), (3, 0)]⟩, ⟨2, [], [], []⟩, ⟨3, [], [], []⟩, ⟨4, [], [], []⟩, both 4 [(0, 1), (1, 2), (2, 3)], both 4 [(0, 1), (1, 2), (2, 3), (0, 3)], both 3 [(0, 1), (1, 2), (0, 2)]]
theorem special_eval (x : Int) : m__law_special [.int x] = some (encW (specials.getD (x % 10).toNat ⟨0, [], [], []⟩)) := by
  unfold m__law_special S__law_special
  (simp only [x_seq, x_nx, x_rt, x_lnx, x_lct, x_lbk, x_lrt, x_bk, x_ct, x_nil, x_ret, x_set, x_asg, x_new, x_frz, x_if, x_drop, x_for, x_gN, x_gT, x_gsN, x_gsC, x_var, x_vvar, x_c, x_bin, x_un, x_of, x_tru, x_tand, x_tor, x_tnot, x_tT, x_and, x_or, x_not, x_eif, x_aN, x_aC, x_tup, x_lst, x_llst, x_call, x_eL, x_lseq, x_rng1, x_comp, x_comp2, x_app, x_ext, x_frzE, x_f1, x_f2, x_fn, x_start, x_rrt, x_rnx, all_D, any_D, x_bN, x_bC, x_asB, x_asI, x_truB, x_truI, x_seqL, x_seqT, x_lenL, x_lenT, x_tupL, x_tupT, x_int, x_wN, x_wC, x_ixT, x_ixL, x_isi, x_is_int_bool, x_is_int_int, x_is_int_str, x_is_int_tuple, x_is_int_list, x_is_int_dict, x_is_tup_bool, x_is_tup_int, x_is_tup_str, x_is_tup_tuple, x_is_tup_list, x_is_tup_dict, x_is_lst_bool, x_is_lst_int, x_is_lst_str, x_is_lst_tuple, x_is_lst_list, x_is_lst_dict, x_is_bl_bool, x_is_bl_int, x_is_bl_str, x_is_bl_tuple, x_is_bl_list, x_is_bl_dict, x_is_non_bool, x_is_non_int, x_is_non_str, x_is_non_tuple, x_is_non_list, x_is_non_dict, x_is_str_bool, x_is_str_int, x_is_str_str, x_is_str_tuple, x_is_str_list, x_is_str_dict, x_ite, x_itm, x_at0, x_at1, x_at2, x_addI, x_subI, x_pow18, x_mod, x_fdiv, x_sq, x_mul, x_mul', x_addT, x_addL, x_gt, x_ge, x_le, x_lt, eqD_int, neD_int, eqD_bool, neD_bool, getS, setS, List.map_cons, List.map_nil, List.length_cons, List.length_nil, List.cons_append, List.nil_append, List.replicate, Option.bind_some, Option.map_some, Option.bind_none, Option.map_none, if_true, if_false, ite_true, ite_false, reduceIte, Nat.reduceAdd, Nat.reduceSub, Nat.reduceLeDiff, Bool.false_eq_true, Nat.reduceEqDiff, Nat.le_refl, LIM, Bool.not_true, Bool.not_false, decide_true, decide_false, decide_eq_true_eq, Int.reduceEq, Int.reduceLT, Int.reduceLE, Int.reduceAdd, Int.reduceSub, Int.reduceNe, Int.reduceNeg, Int.cast_ofNat_Int, ne_eq, not_true_eq_false, not_false_eq_true])
  rw [line3, line4, ring3, ring4]
  (simp only [x_seq, x_nx, x_rt, x_lnx, x_lct, x_lbk, x_lrt, x_bk, x_ct, x_nil, x_ret, x_set, x_asg, x_new, x_frz, x_if, x_drop, x_for, x_gN, x_gT, x_gsN, x_gsC, x_var, x_vvar, x_c, x_bin, x_un, x_of, x_tru, x_tand, x_tor, x_tnot, x_tT, x_and, x_or, x_not, x_eif, x_aN, x_aC, x_tup, x_lst, x_llst, x_call, x_eL, x_lseq, x_rng1, x_comp, x_comp2, x_app, x_ext, x_frzE, x_f1, x_f2, x_fn, x_start, x_rrt, x_rnx, all_D, any_D, x_bN, x_bC, x_asB, x_asI, x_truB, x_truI, x_seqL, x_seqT, x_lenL, x_lenT, x_tupL, x_tupT, x_int, x_wN, x_wC, x_ixT, x_ixL, x_isi, x_is_int_bool, x_is_int_int, x_is_int_str, x_is_int_tuple, x_is_int_list, x_is_int_dict, x_is_tup_bool, x_is_tup_int, x_is_tup_str, x_is_tup_tuple, x_is_tup_list, x_is_tup_dict, x_is_lst_bool, x_is_lst_int, x_is_lst_str, x_is_lst_tuple, x_is_lst_list, x_is_lst_dict, x_is_bl_bool, x_is_bl_int, x_is_bl_str, x_is_bl_tuple, x_is_bl_list, x_is_bl_dict, x_is_non_bool, x_is_non_int, x_is_non_str, x_is_non_tuple, x_is_non_list, x_is_non_dict, x_is_str_bool, x_is_str_int, x_is_str_str, x_is_str_tuple, x_is_str_list, x_is_str_dict, x_ite, x_itm, x_at0, x_at1, x_at2, x_addI, x_subI, x_pow18, x_mod, x_fdiv, x_sq, x_mul, x_mul', x_addT, x_addL, x_gt, x_ge, x_le, x_lt, eqD_int, neD_int, eqD_bool, neD_bool, getS, setS, List.map_cons, List.map_nil, List.length_cons, List.length_nil, List.cons_append, List.nil_append, List.replicate, Option.bind_some, Option.map_some, Option.bind_none, Option.map_none, if_true, if_false, ite_true, ite_false, reduceIte, Nat.reduceAdd, Nat.reduceSub, Nat.reduceLeDiff, Bool.false_eq_true, Nat.reduceEqDiff, Nat.le_refl, LIM, Bool.not_true, Bool.not_false, decide_true, decide_false, decide_eq_true_eq, Int.reduceEq, Int.reduceLT, Int.reduceLE, Int.reduceAdd, Int.reduceSub, Int.reduceNe, Int.reduceNeg, Int.cast_ofNat_Int, ne_eq, not_true_eq_false, not_false_eq_true])
  rw [show m__law_both_ways [.int 4, PyData.tuple [PyData.tuple [PyData.int 0, PyData.int 1], PyData.tuple [PyData.int 1, PyData.int 2], PyData.tuple [PyData.int 2, PyData.int 3]]] = _ from both_eval 4 [(0, 1), (1, 2), (2, 3)] (by decide),
    show m__law_both_ways [.int 4, PyData.tuple [PyData.tuple [PyData.int 0, PyData.int 1], PyData.tuple [PyData.int 1, PyData.int 2], PyData.tuple [PyData.int 2, PyData.int 3], PyData.tuple [PyData.int 0, PyData.int 3]]] = _ from both_eval 4 [(0, 1), (1, 2), (2, 3), (0, 3)] (by decide),
    show m__law_both_ways [.int 3, PyData.tuple [PyData.tuple [PyData.int 0, PyData.int 1], PyData.tuple [PyData.int 1, PyData.int 2], PyData.tuple [PyData.int 0, PyData.int 2]]] = _ from both_eval 3 [(0, 1), (1, 2), (0, 2)] (by decide)]
  (simp only [x_seq, x_nx, x_rt, x_lnx, x_lct, x_lbk, x_lrt, x_bk, x_ct, x_nil, x_ret, x_set, x_asg, x_new, x_frz, x_if, x_drop, x_for, x_gN, x_gT, x_gsN, x_gsC, x_var, x_vvar, x_c, x_bin, x_un, x_of, x_tru, x_tand, x_tor, x_tnot, x_tT, x_and, x_or, x_not, x_eif, x_aN, x_aC, x_tup, x_lst, x_llst, x_call, x_eL, x_lseq, x_rng1, x_comp, x_comp2, x_app, x_ext, x_frzE, x_f1, x_f2, x_fn, x_start, x_rrt, x_rnx, all_D, any_D, x_bN, x_bC, x_asB, x_asI, x_truB, x_truI, x_seqL, x_seqT, x_lenL, x_lenT, x_tupL, x_tupT, x_int, x_wN, x_wC, x_ixT, x_ixL, x_isi, x_is_int_bool, x_is_int_int, x_is_int_str, x_is_int_tuple, x_is_int_list, x_is_int_dict, x_is_tup_bool, x_is_tup_int, x_is_tup_str, x_is_tup_tuple, x_is_tup_list, x_is_tup_dict, x_is_lst_bool, x_is_lst_int, x_is_lst_str, x_is_lst_tuple, x_is_lst_list, x_is_lst_dict, x_is_bl_bool, x_is_bl_int, x_is_bl_str, x_is_bl_tuple, x_is_bl_list, x_is_bl_dict, x_is_non_bool, x_is_non_int, x_is_non_str, x_is_non_tuple, x_is_non_list, x_is_non_dict, x_is_str_bool, x_is_str_int, x_is_str_str, x_is_str_tuple, x_is_str_list, x_is_str_dict, x_ite, x_itm, x_at0, x_at1, x_at2, x_addI, x_subI, x_pow18, x_mod, x_fdiv, x_sq, x_mul, x_mul', x_addT, x_addL, x_gt, x_ge, x_le, x_lt, eqD_int, neD_int, eqD_bool, neD_bool, getS, setS, List.map_cons, List.map_nil, List.length_cons, List.length_nil, List.cons_append, List.nil_append, List.replicate, Option.bind_some, Option.map_some, Option.bind_none, Option.map_none, if_true, if_false, ite_true, ite_false, reduceIte, Nat.reduceAdd, Nat.reduceSub, Nat.reduceLeDiff, Bool.false_eq_true, Nat.reduceEqDiff, Nat.le_refl, LIM, Bool.not_true, Bool.not_false, decide_true, decide_false, decide_eq_true_eq, Int.reduceEq, Int.reduceLT, Int.reduceLE, Int.reduceAdd, Int.reduceSub, Int.reduceNe, Int.reduceNeg, Int.cast_ofNat_Int, ne_eq, not_true_eq_false, not_false_eq_true])
  have e : atI (specials.map encW) (x % 10) = some (encW (specials.getD (x % 10).toNat ⟨0, [], [], []⟩)) := by
    have h1 := Int.emod_nonneg x (show (10 : Int) ≠ 0 by decide)
    have h2 := Int.emod_lt_of_pos x (show (0 : Int) < 10 by decide)
    obtain ⟨k, hk⟩ : ∃ k : Nat, x % 10 = (k : Int) := ⟨(x % 10).toNat, by omega⟩
    rw [hk] at h2 ⊢
    have hk10 : k < specials.length := by show k < 10; omega
    rw [x_atN, List.getElem?_map, List.getElem?_eq_getElem hk10, Int.toNat_natCast, List.getD_eq_getElem?_getD, List.getElem?_eq_getElem hk10] <;> rfl
  show (Option.map Out.rt (atI (specials.map encW) (x % 10))).bind retO = _
  rw [e]
  rfl
theorem specials_n (x : Int) : 1 ≤ (specials.getD (x % 10).toNat ⟨0, [], [], []⟩).n ∧ (specials.getD (x % 10).toNat ⟨0, [], [], []⟩).n ≤ 4 := by
  have h2 := Int.emod_lt_of_pos x (show (0 : Int) < 10 by decide)
  have h : ∀ k : Nat, k < 10 → 1 ≤ (specials.getD k ⟨0, [], [], []⟩).n ∧ (specials.getD k ⟨0, [], [], []⟩).n ≤ 4 := fun k hk => by
    match k, hk with
    | 0, _ => exact ⟨by decide, by decide⟩
    | 1, _ => exact ⟨by decide, by decide⟩
    | 2, _ => exact ⟨by decide, by decide⟩
    | 3, _ => exact ⟨by decide, by decide⟩
    | 4, _ => exact ⟨by decide, by decide⟩
    | 5, _ => exact ⟨by decide, by decide⟩
    | 6, _ => exact ⟨by decide, by decide⟩
    | 7, _ => exact ⟨by decide, by decide⟩
    | 8, _ => exact ⟨by decide, by decide⟩
    | 9, _ => exact ⟨by decide, by decide⟩
  exact h _ (by omega)
theorem at_pick {α : Type} (L : List α) (k : Int) (h0 : 0 ≤ k) (h1 : k < L.length) : ∃ x ∈ L, atI L k = some x := by
  obtain ⟨i, rfl⟩ : ∃ i : Nat, k = (i : Int) := ⟨k.toNat, by omega⟩
  have hi : i < L.length := by omega
  exact ⟨L[i], List.getElem_mem hi, by rw [x_atN, List.getElem?_eq_getElem hi]⟩
theorem notInD_pairL (a b : Int) (l : List (Int × Int)) : notInD (.tuple [.int a, .int b]) (.list (l.map encP)) = some (.bool (!has (a, b) l)) := by
  unfold notInD
  rw [show memD (.tuple [.int a, .int b]) (.list (l.map encP)) = some (has (a, b) l) from mem_L (α := Int × Int) (a, b) l] <;> rfl
section
variable {ds : List Int}
theorem at_draw (hl : ds.length = 90) (i : Int) (h0 : 0 ≤ i) (h1 : i < 90) : atI (ds.map PyData.int) i = some (.int (nth ds i.toNat)) := by
  have := encI_at ds (k := i.toNat) (by omega)
  rw [Int.toNat_of_nonneg h0] at this
  exact this
theorem world_q9 (hl : ds.length = 90) (most dense marked : D) (s6 s8 s9 s10 : Sl) (n : Nat) (m0 m1 : List Int) (ar : List (Int × Int)) (ha : ar.length ≤ 1000) :
    ∃ ar' : List (Int × Int), (q__law_world_9 [.dat (.list (ds.map PyData.int)), .dat most, .dat (.int n), .dat dense, .dat marked, .dat (.tuple [encI m0, encI m1]), s6, .own (ar.map encP), s8, s9, s10]).bind retO = some (encW ⟨n, m0, m1, ar'⟩) := by
  have fin : ∀ (ar : List (Int × Int)) (s6 s8 s9 s10 : Sl), (q__law_world_10 [.dat (.list (ds.map PyData.int)), .dat most, .dat (.int n), .dat dense, .dat marked, .dat (.tuple [encI m0, encI m1]), s6, .own (ar.map encP), s8, s9, s10]).bind retO = some (encW ⟨n, m0, m1, srt ar⟩) := fun ar s6 s8 s9 s10 => by
    unfold q__law_world_10
    (simp only [x_seq, x_nx, x_rt, x_lnx, x_lct, x_lbk, x_lrt, x_bk, x_ct, x_nil, x_ret, x_set, x_asg, x_new, x_frz, x_if, x_drop, x_for, x_gN, x_gT, x_gsN, x_gsC, x_var, x_vvar, x_c, x_bin, x_un, x_of, x_tru, x_tand, x_tor, x_tnot, x_tT, x_and, x_or, x_not, x_eif, x_aN, x_aC, x_tup, x_lst, x_llst, x_call, x_eL, x_lseq, x_rng1, x_comp, x_comp2, x_app, x_ext, x_frzE, x_f1, x_f2, x_fn, x_start, x_rrt, x_rnx, all_D, any_D, x_bN, x_bC, x_asB, x_asI, x_truB, x_truI, x_seqL, x_seqT, x_lenL, x_lenT, x_tupL, x_tupT, x_int, x_wN, x_wC, x_ixT, x_ixL, x_isi, x_is_int_bool, x_is_int_int, x_is_int_str, x_is_int_tuple, x_is_int_list, x_is_int_dict, x_is_tup_bool, x_is_tup_int, x_is_tup_str, x_is_tup_tuple, x_is_tup_list, x_is_tup_dict, x_is_lst_bool, x_is_lst_int, x_is_lst_str, x_is_lst_tuple, x_is_lst_list, x_is_lst_dict, x_is_bl_bool, x_is_bl_int, x_is_bl_str, x_is_bl_tuple, x_is_bl_list, x_is_bl_dict, x_is_non_bool, x_is_non_int, x_is_non_str, x_is_non_tuple, x_is_non_list, x_is_non_dict, x_is_str_bool, x_is_str_int, x_is_str_str, x_is_str_tuple, x_is_str_list, x_is_str_dict, x_ite, x_itm, x_at0, x_at1, x_at2, x_addI, x_subI, x_pow18, x_mod, x_fdiv, x_sq, x_mul, x_mul', x_addT, x_addL, x_gt, x_ge, x_le, x_lt, eqD_int, neD_int, eqD_bool, neD_bool, getS, setS, List.map_cons, List.map_nil, List.length_cons, List.length_nil, List.cons_append, List.nil_append, List.replicate, Option.bind_some, Option.map_some, Option.bind_none, Option.map_none, if_true, if_false, ite_true, ite_false, reduceIte, Nat.reduceAdd, Nat.reduceSub, Nat.reduceLeDiff, Bool.false_eq_true, Nat.reduceEqDiff, Nat.le_refl, LIM, Bool.not_true, Bool.not_false, decide_true, decide_false, decide_eq_true_eq, Int.reduceEq, Int.reduceLT, Int.reduceLE, Int.reduceAdd, Int.reduceSub, Int.reduceNe, Int.reduceNeg, Int.cast_ofNat_Int, ne_eq, not_true_eq_false, not_false_eq_true])
    rw [sort_pairs]
    (simp only [x_seq, x_nx, x_rt, x_lnx, x_lct, x_lbk, x_lrt, x_bk, x_ct, x_nil, x_ret, x_set, x_asg, x_new, x_frz, x_if, x_drop, x_for, x_gN, x_gT, x_gsN, x_gsC, x_var, x_vvar, x_c, x_bin, x_un, x_of, x_tru, x_tand, x_tor, x_tnot, x_tT, x_and, x_or, x_not, x_eif, x_aN, x_aC, x_tup, x_lst, x_llst, x_call, x_eL, x_lseq, x_rng1, x_comp, x_comp2, x_app, x_ext, x_frzE, x_f1, x_f2, x_fn, x_start, x_rrt, x_rnx, all_D, any_D, x_bN, x_bC, x_asB, x_asI, x_truB, x_truI, x_seqL, x_seqT, x_lenL, x_lenT, x_tupL, x_tupT, x_int, x_wN, x_wC, x_ixT, x_ixL, x_isi, x_is_int_bool, x_is_int_int, x_is_int_str, x_is_int_tuple, x_is_int_list, x_is_int_dict, x_is_tup_bool, x_is_tup_int, x_is_tup_str, x_is_tup_tuple, x_is_tup_list, x_is_tup_dict, x_is_lst_bool, x_is_lst_int, x_is_lst_str, x_is_lst_tuple, x_is_lst_list, x_is_lst_dict, x_is_bl_bool, x_is_bl_int, x_is_bl_str, x_is_bl_tuple, x_is_bl_list, x_is_bl_dict, x_is_non_bool, x_is_non_int, x_is_non_str, x_is_non_tuple, x_is_non_list, x_is_non_dict, x_is_str_bool, x_is_str_int, x_is_str_str, x_is_str_tuple, x_is_str_list, x_is_str_dict, x_ite, x_itm, x_at0, x_at1, x_at2, x_addI, x_subI, x_pow18, x_mod, x_fdiv, x_sq, x_mul, x_mul', x_addT, x_addL, x_gt, x_ge, x_le, x_lt, eqD_int, neD_int, eqD_bool, neD_bool, getS, setS, List.map_cons, List.map_nil, List.length_cons, List.length_nil, List.cons_append, List.nil_append, List.replicate, Option.bind_some, Option.map_some, Option.bind_none, Option.map_none, if_true, if_false, ite_true, ite_false, reduceIte, Nat.reduceAdd, Nat.reduceSub, Nat.reduceLeDiff, Bool.false_eq_true, Nat.reduceEqDiff, Nat.le_refl, LIM, Bool.not_true, Bool.not_false, decide_true, decide_false, decide_eq_true_eq, Int.reduceEq, Int.reduceLT, Int.reduceLE, Int.reduceAdd, Int.reduceSub, Int.reduceNe, Int.reduceNeg, Int.cast_ofNat_Int, ne_eq, not_true_eq_false, not_false_eq_true])
    rfl
  unfold q__law_world_9
  (simp only [x_seq, x_nx, x_rt, x_lnx, x_lct, x_lbk, x_lrt, x_bk, x_ct, x_nil, x_ret, x_set, x_asg, x_new, x_frz, x_if, x_drop, x_for, x_gN, x_gT, x_gsN, x_gsC, x_var, x_vvar, x_c, x_bin, x_un, x_of, x_tru, x_tand, x_tor, x_tnot, x_tT, x_and, x_or, x_not, x_eif, x_aN, x_aC, x_tup, x_lst, x_llst, x_call, x_eL, x_lseq, x_rng1, x_comp, x_comp2, x_app, x_ext, x_frzE, x_f1, x_f2, x_fn, x_start, x_rrt, x_rnx, all_D, any_D, x_bN, x_bC, x_asB, x_asI, x_truB, x_truI, x_seqL, x_seqT, x_lenL, x_lenT, x_tupL, x_tupT, x_int, x_wN, x_wC, x_ixT, x_ixL, x_isi, x_is_int_bool, x_is_int_int, x_is_int_str, x_is_int_tuple, x_is_int_list, x_is_int_dict, x_is_tup_bool, x_is_tup_int, x_is_tup_str, x_is_tup_tuple, x_is_tup_list, x_is_tup_dict, x_is_lst_bool, x_is_lst_int, x_is_lst_str, x_is_lst_tuple, x_is_lst_list, x_is_lst_dict, x_is_bl_bool, x_is_bl_int, x_is_bl_str, x_is_bl_tuple, x_is_bl_list, x_is_bl_dict, x_is_non_bool, x_is_non_int, x_is_non_str, x_is_non_tuple, x_is_non_list, x_is_non_dict, x_is_str_bool, x_is_str_int, x_is_str_str, x_is_str_tuple, x_is_str_list, x_is_str_dict, x_ite, x_itm, x_at0, x_at1, x_at2, x_addI, x_subI, x_pow18, x_mod, x_fdiv, x_sq, x_mul, x_mul', x_addT, x_addL, x_gt, x_ge, x_le, x_lt, eqD_int, neD_int, eqD_bool, neD_bool, getS, setS, List.map_cons, List.map_nil, List.length_cons, List.length_nil, List.cons_append, List.nil_append, List.replicate, Option.bind_some, Option.map_some, Option.bind_none, Option.map_none, if_true, if_false, ite_true, ite_false, reduceIte, Nat.reduceAdd, Nat.reduceSub, Nat.reduceLeDiff, Bool.false_eq_true, Nat.reduceEqDiff, Nat.le_refl, LIM, Bool.not_true, Bool.not_false, decide_true, decide_false, decide_eq_true_eq, Int.reduceEq, Int.reduceLT, Int.reduceLE, Int.reduceAdd, Int.reduceSub, Int.reduceNe, Int.reduceNeg, Int.cast_ofNat_Int, ne_eq, not_true_eq_false, not_false_eq_true])
  rw [at_draw hl 2 (by decide) (by decide)]
  (simp only [x_seq, x_nx, x_rt, x_lnx, x_lct, x_lbk, x_lrt, x_bk, x_ct, x_nil, x_ret, x_set, x_asg, x_new, x_frz, x_if, x_drop, x_for, x_gN, x_gT, x_gsN, x_gsC, x_var, x_vvar, x_c, x_bin, x_un, x_of, x_tru, x_tand, x_tor, x_tnot, x_tT, x_and, x_or, x_not, x_eif, x_aN, x_aC, x_tup, x_lst, x_llst, x_call, x_eL, x_lseq, x_rng1, x_comp, x_comp2, x_app, x_ext, x_frzE, x_f1, x_f2, x_fn, x_start, x_rrt, x_rnx, all_D, any_D, x_bN, x_bC, x_asB, x_asI, x_truB, x_truI, x_seqL, x_seqT, x_lenL, x_lenT, x_tupL, x_tupT, x_int, x_wN, x_wC, x_ixT, x_ixL, x_isi, x_is_int_bool, x_is_int_int, x_is_int_str, x_is_int_tuple, x_is_int_list, x_is_int_dict, x_is_tup_bool, x_is_tup_int, x_is_tup_str, x_is_tup_tuple, x_is_tup_list, x_is_tup_dict, x_is_lst_bool, x_is_lst_int, x_is_lst_str, x_is_lst_tuple, x_is_lst_list, x_is_lst_dict, x_is_bl_bool, x_is_bl_int, x_is_bl_str, x_is_bl_tuple, x_is_bl_list, x_is_bl_dict, x_is_non_bool, x_is_non_int, x_is_non_str, x_is_non_tuple, x_is_non_list, x_is_non_dict, x_is_str_bool, x_is_str_int, x_is_str_str, x_is_str_tuple, x_is_str_list, x_is_str_dict, x_ite, x_itm, x_at0, x_at1, x_at2, x_addI, x_subI, x_pow18, x_mod, x_fdiv, x_sq, x_mul, x_mul', x_addT, x_addL, x_gt, x_ge, x_le, x_lt, eqD_int, neD_int, eqD_bool, neD_bool, getS, setS, List.map_cons, List.map_nil, List.length_cons, List.length_nil, List.cons_append, List.nil_append, List.replicate, Option.bind_some, Option.map_some, Option.bind_none, Option.map_none, if_true, if_false, ite_true, ite_false, reduceIte, Nat.reduceAdd, Nat.reduceSub, Nat.reduceLeDiff, Bool.false_eq_true, Nat.reduceEqDiff, Nat.le_refl, LIM, Bool.not_true, Bool.not_false, decide_true, decide_false, decide_eq_true_eq, Int.reduceEq, Int.reduceLT, Int.reduceLE, Int.reduceAdd, Int.reduceSub, Int.reduceNe, Int.reduceNeg, Int.cast_ofNat_Int, ne_eq, not_true_eq_false, not_false_eq_true])
  split
  · unfold lCat
    (simp only [x_seq, x_nx, x_rt, x_lnx, x_lct, x_lbk, x_lrt, x_bk, x_ct, x_nil, x_ret, x_set, x_asg, x_new, x_frz, x_if, x_drop, x_for, x_gN, x_gT, x_gsN, x_gsC, x_var, x_vvar, x_c, x_bin, x_un, x_of, x_tru, x_tand, x_tor, x_tnot, x_tT, x_and, x_or, x_not, x_eif, x_aN, x_aC, x_tup, x_lst, x_llst, x_call, x_eL, x_lseq, x_rng1, x_comp, x_comp2, x_app, x_ext, x_frzE, x_f1, x_f2, x_fn, x_start, x_rrt, x_rnx, all_D, any_D, x_bN, x_bC, x_asB, x_asI, x_truB, x_truI, x_seqL, x_seqT, x_lenL, x_lenT, x_tupL, x_tupT, x_int, x_wN, x_wC, x_ixT, x_ixL, x_isi, x_is_int_bool, x_is_int_int, x_is_int_str, x_is_int_tuple, x_is_int_list, x_is_int_dict, x_is_tup_bool, x_is_tup_int, x_is_tup_str, x_is_tup_tuple, x_is_tup_list, x_is_tup_dict, x_is_lst_bool, x_is_lst_int, x_is_lst_str, x_is_lst_tuple, x_is_lst_list, x_is_lst_dict, x_is_bl_bool, x_is_bl_int, x_is_bl_str, x_is_bl_tuple, x_is_bl_list, x_is_bl_dict, x_is_non_bool, x_is_non_int, x_is_non_str, x_is_non_tuple, x_is_non_list, x_is_non_dict, x_is_str_bool, x_is_str_int, x_is_str_str, x_is_str_tuple, x_is_str_list, x_is_str_dict, x_ite, x_itm, x_at0, x_at1, x_at2, x_addI, x_subI, x_pow18, x_mod, x_fdiv, x_sq, x_mul, x_mul', x_addT, x_addL, x_gt, x_ge, x_le, x_lt, eqD_int, neD_int, eqD_bool, neD_bool, getS, setS, List.map_cons, List.map_nil, List.length_cons, List.length_nil, List.cons_append, List.nil_append, List.replicate, Option.bind_some, Option.map_some, Option.bind_none, Option.map_none, if_true, if_false, ite_true, ite_false, reduceIte, Nat.reduceAdd, Nat.reduceSub, Nat.reduceLeDiff, Bool.false_eq_true, Nat.reduceEqDiff, Nat.le_refl, LIM, Bool.not_true, Bool.not_false, decide_true, decide_false, decide_eq_true_eq, Int.reduceEq, Int.reduceLT, Int.reduceLE, Int.reduceAdd, Int.reduceSub, Int.reduceNe, Int.reduceNeg, Int.cast_ofNat_Int, ne_eq, not_true_eq_false, not_false_eq_true])
    rw [compD_map encP (fun p : Int × Int => encP (p.2, p.1)) (fun p => !has (p.2, p.1) ar) ar fun p hp => ⟨_, rfl, by (simp only [x_seq, x_nx, x_rt, x_lnx, x_lct, x_lbk, x_lrt, x_bk, x_ct, x_nil, x_ret, x_set, x_asg, x_new, x_frz, x_if, x_drop, x_for, x_gN, x_gT, x_gsN, x_gsC, x_var, x_vvar, x_c, x_bin, x_un, x_of, x_tru, x_tand, x_tor, x_tnot, x_tT, x_and, x_or, x_not, x_eif, x_aN, x_aC, x_tup, x_lst, x_llst, x_call, x_eL, x_lseq, x_rng1, x_comp, x_comp2, x_app, x_ext, x_frzE, x_f1, x_f2, x_fn, x_start, x_rrt, x_rnx, all_D, any_D, x_bN, x_bC, x_asB, x_asI, x_truB, x_truI, x_seqL, x_seqT, x_lenL, x_lenT, x_tupL, x_tupT, x_int, x_wN, x_wC, x_ixT, x_ixL, x_isi, x_is_int_bool, x_is_int_int, x_is_int_str, x_is_int_tuple, x_is_int_list, x_is_int_dict, x_is_tup_bool, x_is_tup_int, x_is_tup_str, x_is_tup_tuple, x_is_tup_list, x_is_tup_dict, x_is_lst_bool, x_is_lst_int, x_is_lst_str, x_is_lst_tuple, x_is_lst_list, x_is_lst_dict, x_is_bl_bool, x_is_bl_int, x_is_bl_str, x_is_bl_tuple, x_is_bl_list, x_is_bl_dict, x_is_non_bool, x_is_non_int, x_is_non_str, x_is_non_tuple, x_is_non_list, x_is_non_dict, x_is_str_bool, x_is_str_int, x_is_str_str, x_is_str_tuple, x_is_str_list, x_is_str_dict, x_ite, x_itm, x_at0, x_at1, x_at2, x_addI, x_subI, x_pow18, x_mod, x_fdiv, x_sq, x_mul, x_mul', x_addT, x_addL, x_gt, x_ge, x_le, x_lt, eqD_int, neD_int, eqD_bool, neD_bool, getS, setS, List.map_cons, List.map_nil, List.length_cons, List.length_nil, List.cons_append, List.nil_append, List.replicate, Option.bind_some, Option.map_some, Option.bind_none, Option.map_none, if_true, if_false, ite_true, ite_false, reduceIte, Nat.reduceAdd, Nat.reduceSub, Nat.reduceLeDiff, Bool.false_eq_true, Nat.reduceEqDiff, Nat.le_refl, LIM, Bool.not_true, Bool.not_false, decide_true, decide_false, decide_eq_true_eq, Int.reduceEq, Int.reduceLT, Int.reduceLE, Int.reduceAdd, Int.reduceSub, Int.reduceNe, Int.reduceNeg, Int.cast_ofNat_Int, ne_eq, not_true_eq_false, not_false_eq_true]); rw [notInD_pairL]; (simp only [x_seq, x_nx, x_rt, x_lnx, x_lct, x_lbk, x_lrt, x_bk, x_ct, x_nil, x_ret, x_set, x_asg, x_new, x_frz, x_if, x_drop, x_for, x_gN, x_gT, x_gsN, x_gsC, x_var, x_vvar, x_c, x_bin, x_un, x_of, x_tru, x_tand, x_tor, x_tnot, x_tT, x_and, x_or, x_not, x_eif, x_aN, x_aC, x_tup, x_lst, x_llst, x_call, x_eL, x_lseq, x_rng1, x_comp, x_comp2, x_app, x_ext, x_frzE, x_f1, x_f2, x_fn, x_start, x_rrt, x_rnx, all_D, any_D, x_bN, x_bC, x_asB, x_asI, x_truB, x_truI, x_seqL, x_seqT, x_lenL, x_lenT, x_tupL, x_tupT, x_int, x_wN, x_wC, x_ixT, x_ixL, x_isi, x_is_int_bool, x_is_int_int, x_is_int_str, x_is_int_tuple, x_is_int_list, x_is_int_dict, x_is_tup_bool, x_is_tup_int, x_is_tup_str, x_is_tup_tuple, x_is_tup_list, x_is_tup_dict, x_is_lst_bool, x_is_lst_int, x_is_lst_str, x_is_lst_tuple, x_is_lst_list, x_is_lst_dict, x_is_bl_bool, x_is_bl_int, x_is_bl_str, x_is_bl_tuple, x_is_bl_list, x_is_bl_dict, x_is_non_bool, x_is_non_int, x_is_non_str, x_is_non_tuple, x_is_non_list, x_is_non_dict, x_is_str_bool, x_is_str_int, x_is_str_str, x_is_str_tuple, x_is_str_list, x_is_str_dict, x_ite, x_itm, x_at0, x_at1, x_at2, x_addI, x_subI, x_pow18, x_mod, x_fdiv, x_sq, x_mul, x_mul', x_addT, x_addL, x_gt, x_ge, x_le, x_lt, eqD_int, neD_int, eqD_bool, neD_bool, getS, setS, List.map_cons, List.map_nil, List.length_cons, List.length_nil, List.cons_append, List.nil_append, List.replicate, Option.bind_some, Option.map_some, Option.bind_none, Option.map_none, if_true, if_false, ite_true, ite_false, reduceIte, Nat.reduceAdd, Nat.reduceSub, Nat.reduceLeDiff, Bool.false_eq_true, Nat.reduceEqDiff, Nat.le_refl, LIM, Bool.not_true, Bool.not_false, decide_true, decide_false, decide_eq_true_eq, Int.reduceEq, Int.reduceLT, Int.reduceLE, Int.reduceAdd, Int.reduceSub, Int.reduceNe, Int.reduceNeg, Int.cast_ofNat_Int, ne_eq, not_true_eq_false, not_false_eq_true]), fun _ => by (simp only [x_seq, x_nx, x_rt, x_lnx, x_lct, x_lbk, x_lrt, x_bk, x_ct, x_nil, x_ret, x_set, x_asg, x_new, x_frz, x_if, x_drop, x_for, x_gN, x_gT, x_gsN, x_gsC, x_var, x_vvar, x_c, x_bin, x_un, x_of, x_tru, x_tand, x_tor, x_tnot, x_tT, x_and, x_or, x_not, x_eif, x_aN, x_aC, x_tup, x_lst, x_llst, x_call, x_eL, x_lseq, x_rng1, x_comp, x_comp2, x_app, x_ext, x_frzE, x_f1, x_f2, x_fn, x_start, x_rrt, x_rnx, all_D, any_D, x_bN, x_bC, x_asB, x_asI, x_truB, x_truI, x_seqL, x_seqT, x_lenL, x_lenT, x_tupL, x_tupT, x_int, x_wN, x_wC, x_ixT, x_ixL, x_isi, x_is_int_bool, x_is_int_int, x_is_int_str, x_is_int_tuple, x_is_int_list, x_is_int_dict, x_is_tup_bool, x_is_tup_int, x_is_tup_str, x_is_tup_tuple, x_is_tup_list, x_is_tup_dict, x_is_lst_bool, x_is_lst_int, x_is_lst_str, x_is_lst_tuple, x_is_lst_list, x_is_lst_dict, x_is_bl_bool, x_is_bl_int, x_is_bl_str, x_is_bl_tuple, x_is_bl_list, x_is_bl_dict, x_is_non_bool, x_is_non_int, x_is_non_str, x_is_non_tuple, x_is_non_list, x_is_non_dict, x_is_str_bool, x_is_str_int, x_is_str_str, x_is_str_tuple, x_is_str_list, x_is_str_dict, x_ite, x_itm, x_at0, x_at1, x_at2, x_addI, x_subI, x_pow18, x_mod, x_fdiv, x_sq, x_mul, x_mul', x_addT, x_addL, x_gt, x_ge, x_le, x_lt, eqD_int, neD_int, eqD_bool, neD_bool, getS, setS, List.map_cons, List.map_nil, List.length_cons, List.length_nil, List.cons_append, List.nil_append, List.replicate, Option.bind_some, Option.map_some, Option.bind_none, Option.map_none, if_true, if_false, ite_true, ite_false, reduceIte, Nat.reduceAdd, Nat.reduceSub, Nat.reduceLeDiff, Bool.false_eq_true, Nat.reduceEqDiff, Nat.le_refl, LIM, Bool.not_true, Bool.not_false, decide_true, decide_false, decide_eq_true_eq, Int.reduceEq, Int.reduceLT, Int.reduceLE, Int.reduceAdd, Int.reduceSub, Int.reduceNe, Int.reduceNeg, Int.cast_ofNat_Int, ne_eq, not_true_eq_false, not_false_eq_true]); rfl⟩]
    (simp only [x_seq, x_nx, x_rt, x_lnx, x_lct, x_lbk, x_lrt, x_bk, x_ct, x_nil, x_ret, x_set, x_asg, x_new, x_frz, x_if, x_drop, x_for, x_gN, x_gT, x_gsN, x_gsC, x_var, x_vvar, x_c, x_bin, x_un, x_of, x_tru, x_tand, x_tor, x_tnot, x_tT, x_and, x_or, x_not, x_eif, x_aN, x_aC, x_tup, x_lst, x_llst, x_call, x_eL, x_lseq, x_rng1, x_comp, x_comp2, x_app, x_ext, x_frzE, x_f1, x_f2, x_fn, x_start, x_rrt, x_rnx, all_D, any_D, x_bN, x_bC, x_asB, x_asI, x_truB, x_truI, x_seqL, x_seqT, x_lenL, x_lenT, x_tupL, x_tupT, x_int, x_wN, x_wC, x_ixT, x_ixL, x_isi, x_is_int_bool, x_is_int_int, x_is_int_str, x_is_int_tuple, x_is_int_list, x_is_int_dict, x_is_tup_bool, x_is_tup_int, x_is_tup_str, x_is_tup_tuple, x_is_tup_list, x_is_tup_dict, x_is_lst_bool, x_is_lst_int, x_is_lst_str, x_is_lst_tuple, x_is_lst_list, x_is_lst_dict, x_is_bl_bool, x_is_bl_int, x_is_bl_str, x_is_bl_tuple, x_is_bl_list, x_is_bl_dict, x_is_non_bool, x_is_non_int, x_is_non_str, x_is_non_tuple, x_is_non_list, x_is_non_dict, x_is_str_bool, x_is_str_int, x_is_str_str, x_is_str_tuple, x_is_str_list, x_is_str_dict, x_ite, x_itm, x_at0, x_at1, x_at2, x_addI, x_subI, x_pow18, x_mod, x_fdiv, x_sq, x_mul, x_mul', x_addT, x_addL, x_gt, x_ge, x_le, x_lt, eqD_int, neD_int, eqD_bool, neD_bool, getS, setS, List.map_cons, List.map_nil, List.length_cons, List.length_nil, List.cons_append, List.nil_append, List.replicate, Option.bind_some, Option.map_some, Option.bind_none, Option.map_none, if_true, if_false, ite_true, ite_false, reduceIte, Nat.reduceAdd, Nat.reduceSub, Nat.reduceLeDiff, Bool.false_eq_true, Nat.reduceEqDiff, Nat.le_refl, LIM, Bool.not_true, Bool.not_false, decide_true, decide_false, decide_eq_true_eq, Int.reduceEq, Int.reduceLT, Int.reduceLE, Int.reduceAdd, Int.reduceSub, Int.reduceNe, Int.reduceNeg, Int.cast_ofNat_Int, ne_eq, not_true_eq_false, not_false_eq_true])
    have h2 := List.length_filter_le (fun p : Int × Int => !has (p.2, p.1) ar) ar
    rw [if_pos (by rw [List.length_map, List.length_map]; omega)]
    rw [show ar.map encP ++ (ar.filter fun p => !has (p.2, p.1) ar).map (fun p : Int × Int => encP (p.2, p.1)) = (ar ++ (ar.filter fun p => !has (p.2, p.1) ar).map fun p => (p.2, p.1)).map encP by rw [List.map_append, List.map_map]; rfl]
    generalize (ar ++ (ar.filter fun p => !has (p.2, p.1) ar).map fun p => (p.2, p.1)) = ar2
    rw [compD_map encP encP (fun p : Int × Int => !decide (p.1 = p.2)) ar2 fun p hp => ⟨_, rfl, by (simp only [x_seq, x_nx, x_rt, x_lnx, x_lct, x_lbk, x_lrt, x_bk, x_ct, x_nil, x_ret, x_set, x_asg, x_new, x_frz, x_if, x_drop, x_for, x_gN, x_gT, x_gsN, x_gsC, x_var, x_vvar, x_c, x_bin, x_un, x_of, x_tru, x_tand, x_tor, x_tnot, x_tT, x_and, x_or, x_not, x_eif, x_aN, x_aC, x_tup, x_lst, x_llst, x_call, x_eL, x_lseq, x_rng1, x_comp, x_comp2, x_app, x_ext, x_frzE, x_f1, x_f2, x_fn, x_start, x_rrt, x_rnx, all_D, any_D, x_bN, x_bC, x_asB, x_asI, x_truB, x_truI, x_seqL, x_seqT, x_lenL, x_lenT, x_tupL, x_tupT, x_int, x_wN, x_wC, x_ixT, x_ixL, x_isi, x_is_int_bool, x_is_int_int, x_is_int_str, x_is_int_tuple, x_is_int_list, x_is_int_dict, x_is_tup_bool, x_is_tup_int, x_is_tup_str, x_is_tup_tuple, x_is_tup_list, x_is_tup_dict, x_is_lst_bool, x_is_lst_int, x_is_lst_str, x_is_lst_tuple, x_is_lst_list, x_is_lst_dict, x_is_bl_bool, x_is_bl_int, x_is_bl_str, x_is_bl_tuple, x_is_bl_list, x_is_bl_dict, x_is_non_bool, x_is_non_int, x_is_non_str, x_is_non_tuple, x_is_non_list, x_is_non_dict, x_is_str_bool, x_is_str_int, x_is_str_str, x_is_str_tuple, x_is_str_list, x_is_str_dict, x_ite, x_itm, x_at0, x_at1, x_at2, x_addI, x_subI, x_pow18, x_mod, x_fdiv, x_sq, x_mul, x_mul', x_addT, x_addL, x_gt, x_ge, x_le, x_lt, eqD_int, neD_int, eqD_bool, neD_bool, getS, setS, List.map_cons, List.map_nil, List.length_cons, List.length_nil, List.cons_append, List.nil_append, List.replicate, Option.bind_some, Option.map_some, Option.bind_none, Option.map_none, if_true, if_false, ite_true, ite_false, reduceIte, Nat.reduceAdd, Nat.reduceSub, Nat.reduceLeDiff, Bool.false_eq_true, Nat.reduceEqDiff, Nat.le_refl, LIM, Bool.not_true, Bool.not_false, decide_true, decide_false, decide_eq_true_eq, Int.reduceEq, Int.reduceLT, Int.reduceLE, Int.reduceAdd, Int.reduceSub, Int.reduceNe, Int.reduceNeg, Int.cast_ofNat_Int, ne_eq, not_true_eq_false, not_false_eq_true]), fun _ => by (simp only [x_seq, x_nx, x_rt, x_lnx, x_lct, x_lbk, x_lrt, x_bk, x_ct, x_nil, x_ret, x_set, x_asg, x_new, x_frz, x_if, x_drop, x_for, x_gN, x_gT, x_gsN, x_gsC, x_var, x_vvar, x_c, x_bin, x_un, x_of, x_tru, x_tand, x_tor, x_tnot, x_tT, x_and, x_or, x_not, x_eif, x_aN, x_aC, x_tup, x_lst, x_llst, x_call, x_eL, x_lseq, x_rng1, x_comp, x_comp2, x_app, x_ext, x_frzE, x_f1, x_f2, x_fn, x_start, x_rrt, x_rnx, all_D, any_D, x_bN, x_bC, x_asB, x_asI, x_truB, x_truI, x_seqL, x_seqT, x_lenL, x_lenT, x_tupL, x_tupT, x_int, x_wN, x_wC, x_ixT, x_ixL, x_isi, x_is_int_bool, x_is_int_int, x_is_int_str, x_is_int_tuple, x_is_int_list, x_is_int_dict, x_is_tup_bool, x_is_tup_int, x_is_tup_str, x_is_tup_tuple, x_is_tup_list, x_is_tup_dict, x_is_lst_bool, x_is_lst_int, x_is_lst_str, x_is_lst_tuple, x_is_lst_list, x_is_lst_dict, x_is_bl_bool, x_is_bl_int, x_is_bl_str, x_is_bl_tuple, x_is_bl_list, x_is_bl_dict, x_is_non_bool, x_is_non_int, x_is_non_str, x_is_non_tuple, x_is_non_list, x_is_non_dict, x_is_str_bool, x_is_str_int, x_is_str_str, x_is_str_tuple, x_is_str_list, x_is_str_dict, x_ite, x_itm, x_at0, x_at1, x_at2, x_addI, x_subI, x_pow18, x_mod, x_fdiv, x_sq, x_mul, x_mul', x_addT, x_addL, x_gt, x_ge, x_le, x_lt, eqD_int, neD_int, eqD_bool, neD_bool, getS, setS, List.map_cons, List.map_nil, List.length_cons, List.length_nil, List.cons_append, List.nil_append, List.replicate, Option.bind_some, Option.map_some, Option.bind_none, Option.map_none, if_true, if_false, ite_true, ite_false, reduceIte, Nat.reduceAdd, Nat.reduceSub, Nat.reduceLeDiff, Bool.false_eq_true, Nat.reduceEqDiff, Nat.le_refl, LIM, Bool.not_true, Bool.not_false, decide_true, decide_false, decide_eq_true_eq, Int.reduceEq, Int.reduceLT, Int.reduceLE, Int.reduceAdd, Int.reduceSub, Int.reduceNe, Int.reduceNeg, Int.cast_ofNat_Int, ne_eq, not_true_eq_false, not_false_eq_true]); rfl⟩]
    (simp only [x_seq, x_nx, x_rt, x_lnx, x_lct, x_lbk, x_lrt, x_bk, x_ct, x_nil, x_ret, x_set, x_asg, x_new, x_frz, x_if, x_drop, x_for, x_gN, x_gT, x_gsN, x_gsC, x_var, x_vvar, x_c, x_bin, x_un, x_of, x_tru, x_tand, x_tor, x_tnot, x_tT, x_and, x_or, x_not, x_eif, x_aN, x_aC, x_tup, x_lst, x_llst, x_call, x_eL, x_lseq, x_rng1, x_comp, x_comp2, x_app, x_ext, x_frzE, x_f1, x_f2, x_fn, x_start, x_rrt, x_rnx, all_D, any_D, x_bN, x_bC, x_asB, x_asI, x_truB, x_truI, x_seqL, x_seqT, x_lenL, x_lenT, x_tupL, x_tupT, x_int, x_wN, x_wC, x_ixT, x_ixL, x_isi, x_is_int_bool, x_is_int_int, x_is_int_str, x_is_int_tuple, x_is_int_list, x_is_int_dict, x_is_tup_bool, x_is_tup_int, x_is_tup_str, x_is_tup_tuple, x_is_tup_list, x_is_tup_dict, x_is_lst_bool, x_is_lst_int, x_is_lst_str, x_is_lst_tuple, x_is_lst_list, x_is_lst_dict, x_is_bl_bool, x_is_bl_int, x_is_bl_str, x_is_bl_tuple, x_is_bl_list, x_is_bl_dict, x_is_non_bool, x_is_non_int, x_is_non_str, x_is_non_tuple, x_is_non_list, x_is_non_dict, x_is_str_bool, x_is_str_int, x_is_str_str, x_is_str_tuple, x_is_str_list, x_is_str_dict, x_ite, x_itm, x_at0, x_at1, x_at2, x_addI, x_subI, x_pow18, x_mod, x_fdiv, x_sq, x_mul, x_mul', x_addT, x_addL, x_gt, x_ge, x_le, x_lt, eqD_int, neD_int, eqD_bool, neD_bool, getS, setS, List.map_cons, List.map_nil, List.length_cons, List.length_nil, List.cons_append, List.nil_append, List.replicate, Option.bind_some, Option.map_some, Option.bind_none, Option.map_none, if_true, if_false, ite_true, ite_false, reduceIte, Nat.reduceAdd, Nat.reduceSub, Nat.reduceLeDiff, Bool.false_eq_true, Nat.reduceEqDiff, Nat.le_refl, LIM, Bool.not_true, Bool.not_false, decide_true, decide_false, decide_eq_true_eq, Int.reduceEq, Int.reduceLT, Int.reduceLE, Int.reduceAdd, Int.reduceSub, Int.reduceNe, Int.reduceNeg, Int.cast_ofNat_Int, ne_eq, not_true_eq_false, not_false_eq_true])
    exact ⟨_, fin _ _ _ _ _⟩
  · exact ⟨_, fin _ _ _ _ _⟩
theorem world_q8 (hl : ds.length = 90) (most marked : D) (dense : Int) (hd0 : 0 < dense) (s6 s9 s10 : Sl) (n : Nat) (hn : n ≤ 8) (m0 m1 : List Int) :
    ∃ ar' : List (Int × Int), (q__law_world_8 [.dat (.list (ds.map PyData.int)), .dat most, .dat (.int n), .dat (.int dense), .dat marked, .dat (.tuple [encI m0, encI m1]), s6, .own [], .dat (.int 11), s9, s10]).bind retO = some (encW ⟨n, m0, m1, ar'⟩) := by
  have inner : ∀ (a : Int) (at' : Int) (ar : List (Int × Int)) (s10 : Sl), 0 ≤ at' → at' ≤ 1000 → ar.length ≤ 900 → ∃ (ar2 : List (Int × Int)) (t10 : Sl), forD (gN 10) b__law_world_1 ((rng n).map PyData.int) [.dat (.list (ds.map PyData.int)), .dat most, .dat (.int n), .dat (.int dense), .dat marked, .dat (.tuple [encI m0, encI m1]), s6, .own (ar.map encP), .dat (.int at'), .dat (.int a), s10] =
      some (.nx [.dat (.list (ds.map PyData.int)), .dat most, .dat (.int n), .dat (.int dense), .dat marked, .dat (.tuple [encI m0, encI m1]), s6, .own (ar2.map encP), .dat (.int (at' + n)), .dat (.int a), t10]) ∧ ar2.length ≤ ar.length + n := fun a at' ar s10 h0 h1 h2 => by
    obtain ⟨ρ', e, ar2, t10, rfl, h3⟩ := forD_at (gg := gN 10) (S := b__law_world_1) PyData.int
      (fun done ρ => ∃ (ar2 : List (Int × Int)) (t10 : Sl), ρ = [.dat (.list (ds.map PyData.int)), .dat most, .dat (.int n), .dat (.int dense), .dat marked, .dat (.tuple [encI m0, encI m1]), s6, .own (ar2.map encP), .dat (.int (at' + (done.length : Int))), .dat (.int a), t10] ∧ ar2.length ≤ ar.length + done.length) (rng n) [] _ ⟨ar, s10, rfl, Nat.le_refl _⟩ (fun d x rest hd ρ ⟨ar2, t10, e, h3⟩ => by
        subst e
        rw [List.nil_append] at hd
        have hdl : d.length + 1 ≤ n := by
          have := congrArg List.length hd
          rw [len_rng, List.length_append, List.length_cons] at this
          omega
        refine ⟨_, rfl, ?_⟩
        unfold b__law_world_1
        (simp only [x_seq, x_nx, x_rt, x_lnx, x_lct, x_lbk, x_lrt, x_bk, x_ct, x_nil, x_ret, x_set, x_asg, x_new, x_frz, x_if, x_drop, x_for, x_gN, x_gT, x_gsN, x_gsC, x_var, x_vvar, x_c, x_bin, x_un, x_of, x_tru, x_tand, x_tor, x_tnot, x_tT, x_and, x_or, x_not, x_eif, x_aN, x_aC, x_tup, x_lst, x_llst, x_call, x_eL, x_lseq, x_rng1, x_comp, x_comp2, x_app, x_ext, x_frzE, x_f1, x_f2, x_fn, x_start, x_rrt, x_rnx, all_D, any_D, x_bN, x_bC, x_asB, x_asI, x_truB, x_truI, x_seqL, x_seqT, x_lenL, x_lenT, x_tupL, x_tupT, x_int, x_wN, x_wC, x_ixT, x_ixL, x_isi, x_is_int_bool, x_is_int_int, x_is_int_str, x_is_int_tuple, x_is_int_list, x_is_int_dict, x_is_tup_bool, x_is_tup_int, x_is_tup_str, x_is_tup_tuple, x_is_tup_list, x_is_tup_dict, x_is_lst_bool, x_is_lst_int, x_is_lst_str, x_is_lst_tuple, x_is_lst_list, x_is_lst_dict, x_is_bl_bool, x_is_bl_int, x_is_bl_str, x_is_bl_tuple, x_is_bl_list, x_is_bl_dict, x_is_non_bool, x_is_non_int, x_is_non_str, x_is_non_tuple, x_is_non_list, x_is_non_dict, x_is_str_bool, x_is_str_int, x_is_str_str, x_is_str_tuple, x_is_str_list, x_is_str_dict, x_ite, x_itm, x_at0, x_at1, x_at2, x_addI, x_subI, x_pow18, x_mod, x_fdiv, x_sq, x_mul, x_mul', x_addT, x_addL, x_gt, x_ge, x_le, x_lt, eqD_int, neD_int, eqD_bool, neD_bool, getS, setS, List.map_cons, List.map_nil, List.length_cons, List.length_nil, List.cons_append, List.nil_append, List.replicate, Option.bind_some, Option.map_some, Option.bind_none, Option.map_none, if_true, if_false, ite_true, ite_false, reduceIte, Nat.reduceAdd, Nat.reduceSub, Nat.reduceLeDiff, Bool.false_eq_true, Nat.reduceEqDiff, Nat.le_refl, LIM, Bool.not_true, Bool.not_false, decide_true, decide_false, decide_eq_true_eq, Int.reduceEq, Int.reduceLT, Int.reduceLE, Int.reduceAdd, Int.reduceSub, Int.reduceNe, Int.reduceNeg, Int.cast_ofNat_Int, ne_eq, not_true_eq_false, not_false_eq_true])
        simp only [List.length_map, hl]
        (simp only [x_seq, x_nx, x_rt, x_lnx, x_lct, x_lbk, x_lrt, x_bk, x_ct, x_nil, x_ret, x_set, x_asg, x_new, x_frz, x_if, x_drop, x_for, x_gN, x_gT, x_gsN, x_gsC, x_var, x_vvar, x_c, x_bin, x_un, x_of, x_tru, x_tand, x_tor, x_tnot, x_tT, x_and, x_or, x_not, x_eif, x_aN, x_aC, x_tup, x_lst, x_llst, x_call, x_eL, x_lseq, x_rng1, x_comp, x_comp2, x_app, x_ext, x_frzE, x_f1, x_f2, x_fn, x_start, x_rrt, x_rnx, all_D, any_D, x_bN, x_bC, x_asB, x_asI, x_truB, x_truI, x_seqL, x_seqT, x_lenL, x_lenT, x_tupL, x_tupT, x_int, x_wN, x_wC, x_ixT, x_ixL, x_isi, x_is_int_bool, x_is_int_int, x_is_int_str, x_is_int_tuple, x_is_int_list, x_is_int_dict, x_is_tup_bool, x_is_tup_int, x_is_tup_str, x_is_tup_tuple, x_is_tup_list, x_is_tup_dict, x_is_lst_bool, x_is_lst_int, x_is_lst_str, x_is_lst_tuple, x_is_lst_list, x_is_lst_dict, x_is_bl_bool, x_is_bl_int, x_is_bl_str, x_is_bl_tuple, x_is_bl_list, x_is_bl_dict, x_is_non_bool, x_is_non_int, x_is_non_str, x_is_non_tuple, x_is_non_list, x_is_non_dict, x_is_str_bool, x_is_str_int, x_is_str_str, x_is_str_tuple, x_is_str_list, x_is_str_dict, x_ite, x_itm, x_at0, x_at1, x_at2, x_addI, x_subI, x_pow18, x_mod, x_fdiv, x_sq, x_mul, x_mul', x_addT, x_addL, x_gt, x_ge, x_le, x_lt, eqD_int, neD_int, eqD_bool, neD_bool, getS, setS, List.map_cons, List.map_nil, List.length_cons, List.length_nil, List.cons_append, List.nil_append, List.replicate, Option.bind_some, Option.map_some, Option.bind_none, Option.map_none, if_true, if_false, ite_true, ite_false, reduceIte, Nat.reduceAdd, Nat.reduceSub, Nat.reduceLeDiff, Bool.false_eq_true, Nat.reduceEqDiff, Nat.le_refl, LIM, Bool.not_true, Bool.not_false, decide_true, decide_false, decide_eq_true_eq, Int.reduceEq, Int.reduceLT, Int.reduceLE, Int.reduceAdd, Int.reduceSub, Int.reduceNe, Int.reduceNeg, Int.cast_ofNat_Int, ne_eq, not_true_eq_false, not_false_eq_true])
        have hm0 := Int.emod_nonneg (at' + (d.length : Int)) (show (90 : Int) ≠ 0 by decide)
        have hm1 := Int.emod_lt_of_pos (at' + (d.length : Int)) (show (0 : Int) < 90 by decide)
        rw [at_draw hl _ hm0 hm1]
        (simp only [x_seq, x_nx, x_rt, x_lnx, x_lct, x_lbk, x_lrt, x_bk, x_ct, x_nil, x_ret, x_set, x_asg, x_new, x_frz, x_if, x_drop, x_for, x_gN, x_gT, x_gsN, x_gsC, x_var, x_vvar, x_c, x_bin, x_un, x_of, x_tru, x_tand, x_tor, x_tnot, x_tT, x_and, x_or, x_not, x_eif, x_aN, x_aC, x_tup, x_lst, x_llst, x_call, x_eL, x_lseq, x_rng1, x_comp, x_comp2, x_app, x_ext, x_frzE, x_f1, x_f2, x_fn, x_start, x_rrt, x_rnx, all_D, any_D, x_bN, x_bC, x_asB, x_asI, x_truB, x_truI, x_seqL, x_seqT, x_lenL, x_lenT, x_tupL, x_tupT, x_int, x_wN, x_wC, x_ixT, x_ixL, x_isi, x_is_int_bool, x_is_int_int, x_is_int_str, x_is_int_tuple, x_is_int_list, x_is_int_dict, x_is_tup_bool, x_is_tup_int, x_is_tup_str, x_is_tup_tuple, x_is_tup_list, x_is_tup_dict, x_is_lst_bool, x_is_lst_int, x_is_lst_str, x_is_lst_tuple, x_is_lst_list, x_is_lst_dict, x_is_bl_bool, x_is_bl_int, x_is_bl_str, x_is_bl_tuple, x_is_bl_list, x_is_bl_dict, x_is_non_bool, x_is_non_int, x_is_non_str, x_is_non_tuple, x_is_non_list, x_is_non_dict, x_is_str_bool, x_is_str_int, x_is_str_str, x_is_str_tuple, x_is_str_list, x_is_str_dict, x_ite, x_itm, x_at0, x_at1, x_at2, x_addI, x_subI, x_pow18, x_mod, x_fdiv, x_sq, x_mul, x_mul', x_addT, x_addL, x_gt, x_ge, x_le, x_lt, eqD_int, neD_int, eqD_bool, neD_bool, getS, setS, List.map_cons, List.map_nil, List.length_cons, List.length_nil, List.cons_append, List.nil_append, List.replicate, Option.bind_some, Option.map_some, Option.bind_none, Option.map_none, if_true, if_false, ite_true, ite_false, reduceIte, Nat.reduceAdd, Nat.reduceSub, Nat.reduceLeDiff, Bool.false_eq_true, Nat.reduceEqDiff, Nat.le_refl, LIM, Bool.not_true, Bool.not_false, decide_true, decide_false, decide_eq_true_eq, Int.reduceEq, Int.reduceLT, Int.reduceLE, Int.reduceAdd, Int.reduceSub, Int.reduceNe, Int.reduceNeg, Int.cast_ofNat_Int, ne_eq, not_true_eq_false, not_false_eq_true])
        have hv0 : 0 < 1 + (at' + (d.length : Int)) / 90 := by
          have : 0 ≤ (at' + (d.length : Int)) / 90 := Int.ediv_nonneg (by omega) (by decide)
          omega
        rw [x_fdiv hv0 (by omega)]
        (simp only [x_seq, x_nx, x_rt, x_lnx, x_lct, x_lbk, x_lrt, x_bk, x_ct, x_nil, x_ret, x_set, x_asg, x_new, x_frz, x_if, x_drop, x_for, x_gN, x_gT, x_gsN, x_gsC, x_var, x_vvar, x_c, x_bin, x_un, x_of, x_tru, x_tand, x_tor, x_tnot, x_tT, x_and, x_or, x_not, x_eif, x_aN, x_aC, x_tup, x_lst, x_llst, x_call, x_eL, x_lseq, x_rng1, x_comp, x_comp2, x_app, x_ext, x_frzE, x_f1, x_f2, x_fn, x_start, x_rrt, x_rnx, all_D, any_D, x_bN, x_bC, x_asB, x_asI, x_truB, x_truI, x_seqL, x_seqT, x_lenL, x_lenT, x_tupL, x_tupT, x_int, x_wN, x_wC, x_ixT, x_ixL, x_isi, x_is_int_bool, x_is_int_int, x_is_int_str, x_is_int_tuple, x_is_int_list, x_is_int_dict, x_is_tup_bool, x_is_tup_int, x_is_tup_str, x_is_tup_tuple, x_is_tup_list, x_is_tup_dict, x_is_lst_bool, x_is_lst_int, x_is_lst_str, x_is_lst_tuple, x_is_lst_list, x_is_lst_dict, x_is_bl_bool, x_is_bl_int, x_is_bl_str, x_is_bl_tuple, x_is_bl_list, x_is_bl_dict, x_is_non_bool, x_is_non_int, x_is_non_str, x_is_non_tuple, x_is_non_list, x_is_non_dict, x_is_str_bool, x_is_str_int, x_is_str_str, x_is_str_tuple, x_is_str_list, x_is_str_dict, x_ite, x_itm, x_at0, x_at1, x_at2, x_addI, x_subI, x_pow18, x_mod, x_fdiv, x_sq, x_mul, x_mul', x_addT, x_addL, x_gt, x_ge, x_le, x_lt, eqD_int, neD_int, eqD_bool, neD_bool, getS, setS, List.map_cons, List.map_nil, List.length_cons, List.length_nil, List.cons_append, List.nil_append, List.replicate, Option.bind_some, Option.map_some, Option.bind_none, Option.map_none, if_true, if_false, ite_true, ite_false, reduceIte, Nat.reduceAdd, Nat.reduceSub, Nat.reduceLeDiff, Bool.false_eq_true, Nat.reduceEqDiff, Nat.le_refl, LIM, Bool.not_true, Bool.not_false, decide_true, decide_false, decide_eq_true_eq, Int.reduceEq, Int.reduceLT, Int.reduceLE, Int.reduceAdd, Int.reduceSub, Int.reduceNe, Int.reduceNeg, Int.cast_ofNat_Int, ne_eq, not_true_eq_false, not_false_eq_true])
        rw [x_mod hd0]
        (simp only [x_seq, x_nx, x_rt, x_lnx, x_lct, x_lbk, x_lrt, x_bk, x_ct, x_nil, x_ret, x_set, x_asg, x_new, x_frz, x_if, x_drop, x_for, x_gN, x_gT, x_gsN, x_gsC, x_var, x_vvar, x_c, x_bin, x_un, x_of, x_tru, x_tand, x_tor, x_tnot, x_tT, x_and, x_or, x_not, x_eif, x_aN, x_aC, x_tup, x_lst, x_llst, x_call, x_eL, x_lseq, x_rng1, x_comp, x_comp2, x_app, x_ext, x_frzE, x_f1, x_f2, x_fn, x_start, x_rrt, x_rnx, all_D, any_D, x_bN, x_bC, x_asB, x_asI, x_truB, x_truI, x_seqL, x_seqT, x_lenL, x_lenT, x_tupL, x_tupT, x_int, x_wN, x_wC, x_ixT, x_ixL, x_isi, x_is_int_bool, x_is_int_int, x_is_int_str, x_is_int_tuple, x_is_int_list, x_is_int_dict, x_is_tup_bool, x_is_tup_int, x_is_tup_str, x_is_tup_tuple, x_is_tup_list, x_is_tup_dict, x_is_lst_bool, x_is_lst_int, x_is_lst_str, x_is_lst_tuple, x_is_lst_list, x_is_lst_dict, x_is_bl_bool, x_is_bl_int, x_is_bl_str, x_is_bl_tuple, x_is_bl_list, x_is_bl_dict, x_is_non_bool, x_is_non_int, x_is_non_str, x_is_non_tuple, x_is_non_list, x_is_non_dict, x_is_str_bool, x_is_str_int, x_is_str_str, x_is_str_tuple, x_is_str_list, x_is_str_dict, x_ite, x_itm, x_at0, x_at1, x_at2, x_addI, x_subI, x_pow18, x_mod, x_fdiv, x_sq, x_mul, x_mul', x_addT, x_addL, x_gt, x_ge, x_le, x_lt, eqD_int, neD_int, eqD_bool, neD_bool, getS, setS, List.map_cons, List.map_nil, List.length_cons, List.length_nil, List.cons_append, List.nil_append, List.replicate, Option.bind_some, Option.map_some, Option.bind_none, Option.map_none, if_true, if_false, ite_true, ite_false, reduceIte, Nat.reduceAdd, Nat.reduceSub, Nat.reduceLeDiff, Bool.false_eq_true, Nat.reduceEqDiff, Nat.le_refl, LIM, Bool.not_true, Bool.not_false, decide_true, decide_false, decide_eq_true_eq, Int.reduceEq, Int.reduceLT, Int.reduceLE, Int.reduceAdd, Int.reduceSub, Int.reduceNe, Int.reduceNeg, Int.cast_ofNat_Int, ne_eq, not_true_eq_false, not_false_eq_true])
        split
        · rw [if_pos (by omega)]
          refine ⟨_, rfl, ar2 ++ [(a, x)], .dat (.int x), ?_, by rw [List.length_append, List.length_append]; simp; omega⟩
          rw [List.map_append, List.length_append, Int.natCast_add, ← Int.add_assoc]
          rfl
        · refine ⟨_, rfl, ar2, .dat (.int x), ?_, by rw [List.length_append]; omega⟩
          rw [List.length_append, Int.natCast_add, ← Int.add_assoc]
          rfl)
    rw [List.nil_append, len_rng] at h3
    rw [show at' + (([] : List Int).length : Int) = at' by simp, List.nil_append, len_rng] at e
    exact ⟨ar2, t10, e, h3⟩
  obtain ⟨ρ', e, ar2, at', t9, t10, rfl, h3, h4, h5⟩ := forD_at (gg := gN 9) (S := b__law_world_2) PyData.int
      (fun done ρ => ∃ (ar2 : List (Int × Int)) (at' : Int) (t9 t10 : Sl), ρ = [.dat (.list (ds.map PyData.int)), .dat most, .dat (.int n), .dat (.int dense), .dat marked, .dat (.tuple [encI m0, encI m1]), s6, .own (ar2.map encP), .dat (.int at'), t9, t10] ∧ 0 ≤ at' ∧ at' ≤ 11 + done.length * n ∧ ar2.length ≤ done.length * n) (rng n) [] _ ⟨[], 11, s9, s10, rfl, by decide, by simp, by simp⟩ (fun d x rest hd ρ ⟨ar2, at', t9, t10, e, h3, h4, h5⟩ => by
        subst e
        rw [List.nil_append] at hd
        have hdl : d.length + 1 ≤ n := by
          have := congrArg List.length hd
          rw [len_rng, List.length_append, List.length_cons] at this
          omega
        have hdn : (d.length + 1) * n ≤ n * n := Nat.mul_le_mul_right _ hdl
        have hnn : n * n ≤ 8 * 8 := Nat.mul_le_mul hn hn
        rw [Nat.succ_mul] at hdn
        have hdz : ((d.length : Int)) * n = ((d.length * n : Nat) : Int) := by simp
        refine ⟨_, rfl, ?_⟩
        unfold b__law_world_2
        (simp only [x_seq, x_nx, x_rt, x_lnx, x_lct, x_lbk, x_lrt, x_bk, x_ct, x_nil, x_ret, x_set, x_asg, x_new, x_frz, x_if, x_drop, x_for, x_gN, x_gT, x_gsN, x_gsC, x_var, x_vvar, x_c, x_bin, x_un, x_of, x_tru, x_tand, x_tor, x_tnot, x_tT, x_and, x_or, x_not, x_eif, x_aN, x_aC, x_tup, x_lst, x_llst, x_call, x_eL, x_lseq, x_rng1, x_comp, x_comp2, x_app, x_ext, x_frzE, x_f1, x_f2, x_fn, x_start, x_rrt, x_rnx, all_D, any_D, x_bN, x_bC, x_asB, x_asI, x_truB, x_truI, x_seqL, x_seqT, x_lenL, x_lenT, x_tupL, x_tupT, x_int, x_wN, x_wC, x_ixT, x_ixL, x_isi, x_is_int_bool, x_is_int_int, x_is_int_str, x_is_int_tuple, x_is_int_list, x_is_int_dict, x_is_tup_bool, x_is_tup_int, x_is_tup_str, x_is_tup_tuple, x_is_tup_list, x_is_tup_dict, x_is_lst_bool, x_is_lst_int, x_is_lst_str, x_is_lst_tuple, x_is_lst_list, x_is_lst_dict, x_is_bl_bool, x_is_bl_int, x_is_bl_str, x_is_bl_tuple, x_is_bl_list, x_is_bl_dict, x_is_non_bool, x_is_non_int, x_is_non_str, x_is_non_tuple, x_is_non_list, x_is_non_dict, x_is_str_bool, x_is_str_int, x_is_str_str, x_is_str_tuple, x_is_str_list, x_is_str_dict, x_ite, x_itm, x_at0, x_at1, x_at2, x_addI, x_subI, x_pow18, x_mod, x_fdiv, x_sq, x_mul, x_mul', x_addT, x_addL, x_gt, x_ge, x_le, x_lt, eqD_int, neD_int, eqD_bool, neD_bool, getS, setS, List.map_cons, List.map_nil, List.length_cons, List.length_nil, List.cons_append, List.nil_append, List.replicate, Option.bind_some, Option.map_some, Option.bind_none, Option.map_none, if_true, if_false, ite_true, ite_false, reduceIte, Nat.reduceAdd, Nat.reduceSub, Nat.reduceLeDiff, Bool.false_eq_true, Nat.reduceEqDiff, Nat.le_refl, LIM, Bool.not_true, Bool.not_false, decide_true, decide_false, decide_eq_true_eq, Int.reduceEq, Int.reduceLT, Int.reduceLE, Int.reduceAdd, Int.reduceSub, Int.reduceNe, Int.reduceNeg, Int.cast_ofNat_Int, ne_eq, not_true_eq_false, not_false_eq_true])
        rw [rngD_nat (show n ≤ 16777216 by omega)]
        (simp only [x_seq, x_nx, x_rt, x_lnx, x_lct, x_lbk, x_lrt, x_bk, x_ct, x_nil, x_ret, x_set, x_asg, x_new, x_frz, x_if, x_drop, x_for, x_gN, x_gT, x_gsN, x_gsC, x_var, x_vvar, x_c, x_bin, x_un, x_of, x_tru, x_tand, x_tor, x_tnot, x_tT, x_and, x_or, x_not, x_eif, x_aN, x_aC, x_tup, x_lst, x_llst, x_call, x_eL, x_lseq, x_rng1, x_comp, x_comp2, x_app, x_ext, x_frzE, x_f1, x_f2, x_fn, x_start, x_rrt, x_rnx, all_D, any_D, x_bN, x_bC, x_asB, x_asI, x_truB, x_truI, x_seqL, x_seqT, x_lenL, x_lenT, x_tupL, x_tupT, x_int, x_wN, x_wC, x_ixT, x_ixL, x_isi, x_is_int_bool, x_is_int_int, x_is_int_str, x_is_int_tuple, x_is_int_list, x_is_int_dict, x_is_tup_bool, x_is_tup_int, x_is_tup_str, x_is_tup_tuple, x_is_tup_list, x_is_tup_dict, x_is_lst_bool, x_is_lst_int, x_is_lst_str, x_is_lst_tuple, x_is_lst_list, x_is_lst_dict, x_is_bl_bool, x_is_bl_int, x_is_bl_str, x_is_bl_tuple, x_is_bl_list, x_is_bl_dict, x_is_non_bool, x_is_non_int, x_is_non_str, x_is_non_tuple, x_is_non_list, x_is_non_dict, x_is_str_bool, x_is_str_int, x_is_str_str, x_is_str_tuple, x_is_str_list, x_is_str_dict, x_ite, x_itm, x_at0, x_at1, x_at2, x_addI, x_subI, x_pow18, x_mod, x_fdiv, x_sq, x_mul, x_mul', x_addT, x_addL, x_gt, x_ge, x_le, x_lt, eqD_int, neD_int, eqD_bool, neD_bool, getS, setS, List.map_cons, List.map_nil, List.length_cons, List.length_nil, List.cons_append, List.nil_append, List.replicate, Option.bind_some, Option.map_some, Option.bind_none, Option.map_none, if_true, if_false, ite_true, ite_false, reduceIte, Nat.reduceAdd, Nat.reduceSub, Nat.reduceLeDiff, Bool.false_eq_true, Nat.reduceEqDiff, Nat.le_refl, LIM, Bool.not_true, Bool.not_false, decide_true, decide_false, decide_eq_true_eq, Int.reduceEq, Int.reduceLT, Int.reduceLE, Int.reduceAdd, Int.reduceSub, Int.reduceNe, Int.reduceNeg, Int.cast_ofNat_Int, ne_eq, not_true_eq_false, not_false_eq_true])
        obtain ⟨ar3, t10', e, h6⟩ := inner x at' ar2 t10 h3 (by omega) (by omega)
        rw [e]
        refine ⟨_, rfl, _, _, _, _, rfl, by omega, ?_, ?_⟩
        · rw [List.length_append]
          show at' + n ≤ 11 + ((d.length + 1 : Nat) : Int) * n
          rw [Int.natCast_add, Int.add_mul, hdz]
          omega
        · rw [List.length_append]
          show ar3.length ≤ (d.length + 1) * n
          rw [Nat.succ_mul]
          omega)
  rw [List.nil_append, len_rng] at h5
  have hnn : n * n ≤ 8 * 8 := Nat.mul_le_mul hn hn
  obtain ⟨ar', e2⟩ := world_q9 hl most (.int dense) marked s6 (.dat (.int at')) t9 t10 n m0 m1 ar2 (by omega)
  refine ⟨ar', ?_⟩
  unfold q__law_world_8
  (simp only [x_seq, x_nx, x_rt, x_lnx, x_lct, x_lbk, x_lrt, x_bk, x_ct, x_nil, x_ret, x_set, x_asg, x_new, x_frz, x_if, x_drop, x_for, x_gN, x_gT, x_gsN, x_gsC, x_var, x_vvar, x_c, x_bin, x_un, x_of, x_tru, x_tand, x_tor, x_tnot, x_tT, x_and, x_or, x_not, x_eif, x_aN, x_aC, x_tup, x_lst, x_llst, x_call, x_eL, x_lseq, x_rng1, x_comp, x_comp2, x_app, x_ext, x_frzE, x_f1, x_f2, x_fn, x_start, x_rrt, x_rnx, all_D, any_D, x_bN, x_bC, x_asB, x_asI, x_truB, x_truI, x_seqL, x_seqT, x_lenL, x_lenT, x_tupL, x_tupT, x_int, x_wN, x_wC, x_ixT, x_ixL, x_isi, x_is_int_bool, x_is_int_int, x_is_int_str, x_is_int_tuple, x_is_int_list, x_is_int_dict, x_is_tup_bool, x_is_tup_int, x_is_tup_str, x_is_tup_tuple, x_is_tup_list, x_is_tup_dict, x_is_lst_bool, x_is_lst_int, x_is_lst_str, x_is_lst_tuple, x_is_lst_list, x_is_lst_dict, x_is_bl_bool, x_is_bl_int, x_is_bl_str, x_is_bl_tuple, x_is_bl_list, x_is_bl_dict, x_is_non_bool, x_is_non_int, x_is_non_str, x_is_non_tuple, x_is_non_list, x_is_non_dict, x_is_str_bool, x_is_str_int, x_is_str_str, x_is_str_tuple, x_is_str_list, x_is_str_dict, x_ite, x_itm, x_at0, x_at1, x_at2, x_addI, x_subI, x_pow18, x_mod, x_fdiv, x_sq, x_mul, x_mul', x_addT, x_addL, x_gt, x_ge, x_le, x_lt, eqD_int, neD_int, eqD_bool, neD_bool, getS, setS, List.map_cons, List.map_nil, List.length_cons, List.length_nil, List.cons_append, List.nil_append, List.replicate, Option.bind_some, Option.map_some, Option.bind_none, Option.map_none, if_true, if_false, ite_true, ite_false, reduceIte, Nat.reduceAdd, Nat.reduceSub, Nat.reduceLeDiff, Bool.false_eq_true, Nat.reduceEqDiff, Nat.le_refl, LIM, Bool.not_true, Bool.not_false, decide_true, decide_false, decide_eq_true_eq, Int.reduceEq, Int.reduceLT, Int.reduceLE, Int.reduceAdd, Int.reduceSub, Int.reduceNe, Int.reduceNeg, Int.cast_ofNat_Int, ne_eq, not_true_eq_false, not_false_eq_true])
  rw [rngD_nat (show n ≤ 16777216 by omega)]
  (simp only [x_seq, x_nx, x_rt, x_lnx, x_lct, x_lbk, x_lrt, x_bk, x_ct, x_nil, x_ret, x_set, x_asg, x_new, x_frz, x_if, x_drop, x_for, x_gN, x_gT, x_gsN, x_gsC, x_var, x_vvar, x_c, x_bin, x_un, x_of, x_tru, x_tand, x_tor, x_tnot, x_tT, x_and, x_or, x_not, x_eif, x_aN, x_aC, x_tup, x_lst, x_llst, x_call, x_eL, x_lseq, x_rng1, x_comp, x_comp2, x_app, x_ext, x_frzE, x_f1, x_f2, x_fn, x_start, x_rrt, x_rnx, all_D, any_D, x_bN, x_bC, x_asB, x_asI, x_truB, x_truI, x_seqL, x_seqT, x_lenL, x_lenT, x_tupL, x_tupT, x_int, x_wN, x_wC, x_ixT, x_ixL, x_isi, x_is_int_bool, x_is_int_int, x_is_int_str, x_is_int_tuple, x_is_int_list, x_is_int_dict, x_is_tup_bool, x_is_tup_int, x_is_tup_str, x_is_tup_tuple, x_is_tup_list, x_is_tup_dict, x_is_lst_bool, x_is_lst_int, x_is_lst_str, x_is_lst_tuple, x_is_lst_list, x_is_lst_dict, x_is_bl_bool, x_is_bl_int, x_is_bl_str, x_is_bl_tuple, x_is_bl_list, x_is_bl_dict, x_is_non_bool, x_is_non_int, x_is_non_str, x_is_non_tuple, x_is_non_list, x_is_non_dict, x_is_str_bool, x_is_str_int, x_is_str_str, x_is_str_tuple, x_is_str_list, x_is_str_dict, x_ite, x_itm, x_at0, x_at1, x_at2, x_addI, x_subI, x_pow18, x_mod, x_fdiv, x_sq, x_mul, x_mul', x_addT, x_addL, x_gt, x_ge, x_le, x_lt, eqD_int, neD_int, eqD_bool, neD_bool, getS, setS, List.map_cons, List.map_nil, List.length_cons, List.length_nil, List.cons_append, List.nil_append, List.replicate, Option.bind_some, Option.map_some, Option.bind_none, Option.map_none, if_true, if_false, ite_true, ite_false, reduceIte, Nat.reduceAdd, Nat.reduceSub, Nat.reduceLeDiff, Bool.false_eq_true, Nat.reduceEqDiff, Nat.le_refl, LIM, Bool.not_true, Bool.not_false, decide_true, decide_false, decide_eq_true_eq, Int.reduceEq, Int.reduceLT, Int.reduceLE, Int.reduceAdd, Int.reduceSub, Int.reduceNe, Int.reduceNeg, Int.cast_ofNat_Int, ne_eq, not_true_eq_false, not_false_eq_true])
  refine (bind2_of e).trans ?_
  (simp only [x_seq, x_nx, x_rt, x_lnx, x_lct, x_lbk, x_lrt, x_bk, x_ct, x_nil, x_ret, x_set, x_asg, x_new, x_frz, x_if, x_drop, x_for, x_gN, x_gT, x_gsN, x_gsC, x_var, x_vvar, x_c, x_bin, x_un, x_of, x_tru, x_tand, x_tor, x_tnot, x_tT, x_and, x_or, x_not, x_eif, x_aN, x_aC, x_tup, x_lst, x_llst, x_call, x_eL, x_lseq, x_rng1, x_comp, x_comp2, x_app, x_ext, x_frzE, x_f1, x_f2, x_fn, x_start, x_rrt, x_rnx, all_D, any_D, x_bN, x_bC, x_asB, x_asI, x_truB, x_truI, x_seqL, x_seqT, x_lenL, x_lenT, x_tupL, x_tupT, x_int, x_wN, x_wC, x_ixT, x_ixL, x_isi, x_is_int_bool, x_is_int_int, x_is_int_str, x_is_int_tuple, x_is_int_list, x_is_int_dict, x_is_tup_bool, x_is_tup_int, x_is_tup_str, x_is_tup_tuple, x_is_tup_list, x_is_tup_dict, x_is_lst_bool, x_is_lst_int, x_is_lst_str, x_is_lst_tuple, x_is_lst_list, x_is_lst_dict, x_is_bl_bool, x_is_bl_int, x_is_bl_str, x_is_bl_tuple, x_is_bl_list, x_is_bl_dict, x_is_non_bool, x_is_non_int, x_is_non_str, x_is_non_tuple, x_is_non_list, x_is_non_dict, x_is_str_bool, x_is_str_int, x_is_str_str, x_is_str_tuple, x_is_str_list, x_is_str_dict, x_ite, x_itm, x_at0, x_at1, x_at2, x_addI, x_subI, x_pow18, x_mod, x_fdiv, x_sq, x_mul, x_mul', x_addT, x_addL, x_gt, x_ge, x_le, x_lt, eqD_int, neD_int, eqD_bool, neD_bool, getS, setS, List.map_cons, List.map_nil, List.length_cons, List.length_nil, List.cons_append, List.nil_append, List.replicate, Option.bind_some, Option.map_some, Option.bind_none, Option.map_none, if_true, if_false, ite_true, ite_false, reduceIte, Nat.reduceAdd, Nat.reduceSub, Nat.reduceLeDiff, Bool.false_eq_true, Nat.reduceEqDiff, Nat.le_refl, LIM, Bool.not_true, Bool.not_false, decide_true, decide_false, decide_eq_true_eq, Int.reduceEq, Int.reduceLT, Int.reduceLE, Int.reduceAdd, Int.reduceSub, Int.reduceNe, Int.reduceNeg, Int.cast_ofNat_Int, ne_eq, not_true_eq_false, not_false_eq_true])
  exact e2
theorem world_mark (hl : ds.length = 90) (most dense : D) (marked : Int) (hk : 0 < marked) (ms : List D) (i : Int) (hi : 0 ≤ i) (hi2 : i ≤ 1) (hms : ms.length ≤ 10) (s7 s8 s9 s10 : Sl) (n : Nat) (hn : n ≤ 8) :
    ∃ (l : List Int), b__law_world_0 [.dat (.list (ds.map PyData.int)), .dat most, .dat (.int n), .dat dense, .dat (.int marked), .dat (.tuple ms), .dat (.int i), s7, s8, s9, s10] = some (.nx [.dat (.list (ds.map PyData.int)), .dat most, .dat (.int n), .dat dense, .dat (.int marked), .dat (.tuple (ms ++ [encI l])), .dat (.int i), s7, s8, s9, s10]) := by
  unfold b__law_world_0
  (simp only [x_seq, x_nx, x_rt, x_lnx, x_lct, x_lbk, x_lrt, x_bk, x_ct, x_nil, x_ret, x_set, x_asg, x_new, x_frz, x_if, x_drop, x_for, x_gN, x_gT, x_gsN, x_gsC, x_var, x_vvar, x_c, x_bin, x_un, x_of, x_tru, x_tand, x_tor, x_tnot, x_tT, x_and, x_or, x_not, x_eif, x_aN, x_aC, x_tup, x_lst, x_llst, x_call, x_eL, x_lseq, x_rng1, x_comp, x_comp2, x_app, x_ext, x_frzE, x_f1, x_f2, x_fn, x_start, x_rrt, x_rnx, all_D, any_D, x_bN, x_bC, x_asB, x_asI, x_truB, x_truI, x_seqL, x_seqT, x_lenL, x_lenT, x_tupL, x_tupT, x_int, x_wN, x_wC, x_ixT, x_ixL, x_isi, x_is_int_bool, x_is_int_int, x_is_int_str, x_is_int_tuple, x_is_int_list, x_is_int_dict, x_is_tup_bool, x_is_tup_int, x_is_tup_str, x_is_tup_tuple, x_is_tup_list, x_is_tup_dict, x_is_lst_bool, x_is_lst_int, x_is_lst_str, x_is_lst_tuple, x_is_lst_list, x_is_lst_dict, x_is_bl_bool, x_is_bl_int, x_is_bl_str, x_is_bl_tuple, x_is_bl_list, x_is_bl_dict, x_is_non_bool, x_is_non_int, x_is_non_str, x_is_non_tuple, x_is_non_list, x_is_non_dict, x_is_str_bool, x_is_str_int, x_is_str_str, x_is_str_tuple, x_is_str_list, x_is_str_dict, x_ite, x_itm, x_at0, x_at1, x_at2, x_addI, x_subI, x_pow18, x_mod, x_fdiv, x_sq, x_mul, x_mul', x_addT, x_addL, x_gt, x_ge, x_le, x_lt, eqD_int, neD_int, eqD_bool, neD_bool, getS, setS, List.map_cons, List.map_nil, List.length_cons, List.length_nil, List.cons_append, List.nil_append, List.replicate, Option.bind_some, Option.map_some, Option.bind_none, Option.map_none, if_true, if_false, ite_true, ite_false, reduceIte, Nat.reduceAdd, Nat.reduceSub, Nat.reduceLeDiff, Bool.false_eq_true, Nat.reduceEqDiff, Nat.le_refl, LIM, Bool.not_true, Bool.not_false, decide_true, decide_false, decide_eq_true_eq, Int.reduceEq, Int.reduceLT, Int.reduceLE, Int.reduceAdd, Int.reduceSub, Int.reduceNe, Int.reduceNeg, Int.cast_ofNat_Int, ne_eq, not_true_eq_false, not_false_eq_true])
  rw [rngD_nat (show n ≤ 16777216 by omega)]
  (simp only [x_seq, x_nx, x_rt, x_lnx, x_lct, x_lbk, x_lrt, x_bk, x_ct, x_nil, x_ret, x_set, x_asg, x_new, x_frz, x_if, x_drop, x_for, x_gN, x_gT, x_gsN, x_gsC, x_var, x_vvar, x_c, x_bin, x_un, x_of, x_tru, x_tand, x_tor, x_tnot, x_tT, x_and, x_or, x_not, x_eif, x_aN, x_aC, x_tup, x_lst, x_llst, x_call, x_eL, x_lseq, x_rng1, x_comp, x_comp2, x_app, x_ext, x_frzE, x_f1, x_f2, x_fn, x_start, x_rrt, x_rnx, all_D, any_D, x_bN, x_bC, x_asB, x_asI, x_truB, x_truI, x_seqL, x_seqT, x_lenL, x_lenT, x_tupL, x_tupT, x_int, x_wN, x_wC, x_ixT, x_ixL, x_isi, x_is_int_bool, x_is_int_int, x_is_int_str, x_is_int_tuple, x_is_int_list, x_is_int_dict, x_is_tup_bool, x_is_tup_int, x_is_tup_str, x_is_tup_tuple, x_is_tup_list, x_is_tup_dict, x_is_lst_bool, x_is_lst_int, x_is_lst_str, x_is_lst_tuple, x_is_lst_list, x_is_lst_dict, x_is_bl_bool, x_is_bl_int, x_is_bl_str, x_is_bl_tuple, x_is_bl_list, x_is_bl_dict, x_is_non_bool, x_is_non_int, x_is_non_str, x_is_non_tuple, x_is_non_list, x_is_non_dict, x_is_str_bool, x_is_str_int, x_is_str_str, x_is_str_tuple, x_is_str_list, x_is_str_dict, x_ite, x_itm, x_at0, x_at1, x_at2, x_addI, x_subI, x_pow18, x_mod, x_fdiv, x_sq, x_mul, x_mul', x_addT, x_addL, x_gt, x_ge, x_le, x_lt, eqD_int, neD_int, eqD_bool, neD_bool, getS, setS, List.map_cons, List.map_nil, List.length_cons, List.length_nil, List.cons_append, List.nil_append, List.replicate, Option.bind_some, Option.map_some, Option.bind_none, Option.map_none, if_true, if_false, ite_true, ite_false, reduceIte, Nat.reduceAdd, Nat.reduceSub, Nat.reduceLeDiff, Bool.false_eq_true, Nat.reduceEqDiff, Nat.le_refl, LIM, Bool.not_true, Bool.not_false, decide_true, decide_false, decide_eq_true_eq, Int.reduceEq, Int.reduceLT, Int.reduceLE, Int.reduceAdd, Int.reduceSub, Int.reduceNe, Int.reduceNeg, Int.cast_ofNat_Int, ne_eq, not_true_eq_false, not_false_eq_true])
  rw [compD_map PyData.int PyData.int (fun a => decide (nth ds (3 + a).toNat / (1 + i) % marked = 0)) (rng n) fun x hx => by
    have hx := mem_rng.mp hx
    refine ⟨_, rfl, ?_, fun _ => rfl⟩
    (simp only [x_seq, x_nx, x_rt, x_lnx, x_lct, x_lbk, x_lrt, x_bk, x_ct, x_nil, x_ret, x_set, x_asg, x_new, x_frz, x_if, x_drop, x_for, x_gN, x_gT, x_gsN, x_gsC, x_var, x_vvar, x_c, x_bin, x_un, x_of, x_tru, x_tand, x_tor, x_tnot, x_tT, x_and, x_or, x_not, x_eif, x_aN, x_aC, x_tup, x_lst, x_llst, x_call, x_eL, x_lseq, x_rng1, x_comp, x_comp2, x_app, x_ext, x_frzE, x_f1, x_f2, x_fn, x_start, x_rrt, x_rnx, all_D, any_D, x_bN, x_bC, x_asB, x_asI, x_truB, x_truI, x_seqL, x_seqT, x_lenL, x_lenT, x_tupL, x_tupT, x_int, x_wN, x_wC, x_ixT, x_ixL, x_isi, x_is_int_bool, x_is_int_int, x_is_int_str, x_is_int_tuple, x_is_int_list, x_is_int_dict, x_is_tup_bool, x_is_tup_int, x_is_tup_str, x_is_tup_tuple, x_is_tup_list, x_is_tup_dict, x_is_lst_bool, x_is_lst_int, x_is_lst_str, x_is_lst_tuple, x_is_lst_list, x_is_lst_dict, x_is_bl_bool, x_is_bl_int, x_is_bl_str, x_is_bl_tuple, x_is_bl_list, x_is_bl_dict, x_is_non_bool, x_is_non_int, x_is_non_str, x_is_non_tuple, x_is_non_list, x_is_non_dict, x_is_str_bool, x_is_str_int, x_is_str_str, x_is_str_tuple, x_is_str_list, x_is_str_dict, x_ite, x_itm, x_at0, x_at1, x_at2, x_addI, x_subI, x_pow18, x_mod, x_fdiv, x_sq, x_mul, x_mul', x_addT, x_addL, x_gt, x_ge, x_le, x_lt, eqD_int, neD_int, eqD_bool, neD_bool, getS, setS, List.map_cons, List.map_nil, List.length_cons, List.length_nil, List.cons_append, List.nil_append, List.replicate, Option.bind_some, Option.map_some, Option.bind_none, Option.map_none, if_true, if_false, ite_true, ite_false, reduceIte, Nat.reduceAdd, Nat.reduceSub, Nat.reduceLeDiff, Bool.false_eq_true, Nat.reduceEqDiff, Nat.le_refl, LIM, Bool.not_true, Bool.not_false, decide_true, decide_false, decide_eq_true_eq, Int.reduceEq, Int.reduceLT, Int.reduceLE, Int.reduceAdd, Int.reduceSub, Int.reduceNe, Int.reduceNeg, Int.cast_ofNat_Int, ne_eq, not_true_eq_false, not_false_eq_true])
    rw [at_draw hl (3 + x) (by omega) (by omega)]
    (simp only [x_seq, x_nx, x_rt, x_lnx, x_lct, x_lbk, x_lrt, x_bk, x_ct, x_nil, x_ret, x_set, x_asg, x_new, x_frz, x_if, x_drop, x_for, x_gN, x_gT, x_gsN, x_gsC, x_var, x_vvar, x_c, x_bin, x_un, x_of, x_tru, x_tand, x_tor, x_tnot, x_tT, x_and, x_or, x_not, x_eif, x_aN, x_aC, x_tup, x_lst, x_llst, x_call, x_eL, x_lseq, x_rng1, x_comp, x_comp2, x_app, x_ext, x_frzE, x_f1, x_f2, x_fn, x_start, x_rrt, x_rnx, all_D, any_D, x_bN, x_bC, x_asB, x_asI, x_truB, x_truI, x_seqL, x_seqT, x_lenL, x_lenT, x_tupL, x_tupT, x_int, x_wN, x_wC, x_ixT, x_ixL, x_isi, x_is_int_bool, x_is_int_int, x_is_int_str, x_is_int_tuple, x_is_int_list, x_is_int_dict, x_is_tup_bool, x_is_tup_int, x_is_tup_str, x_is_tup_tuple, x_is_tup_list, x_is_tup_dict, x_is_lst_bool, x_is_lst_int, x_is_lst_str, x_is_lst_tuple, x_is_lst_list, x_is_lst_dict, x_is_bl_bool, x_is_bl_int, x_is_bl_str, x_is_bl_tuple, x_is_bl_list, x_is_bl_dict, x_is_non_bool, x_is_non_int, x_is_non_str, x_is_non_tuple, x_is_non_list, x_is_non_dict, x_is_str_bool, x_is_str_int, x_is_str_str, x_is_str_tuple, x_is_str_list, x_is_str_dict, x_ite, x_itm, x_at0, x_at1, x_at2, x_addI, x_subI, x_pow18, x_mod, x_fdiv, x_sq, x_mul, x_mul', x_addT, x_addL, x_gt, x_ge, x_le, x_lt, eqD_int, neD_int, eqD_bool, neD_bool, getS, setS, List.map_cons, List.map_nil, List.length_cons, List.length_nil, List.cons_append, List.nil_append, List.replicate, Option.bind_some, Option.map_some, Option.bind_none, Option.map_none, if_true, if_false, ite_true, ite_false, reduceIte, Nat.reduceAdd, Nat.reduceSub, Nat.reduceLeDiff, Bool.false_eq_true, Nat.reduceEqDiff, Nat.le_refl, LIM, Bool.not_true, Bool.not_false, decide_true, decide_false, decide_eq_true_eq, Int.reduceEq, Int.reduceLT, Int.reduceLE, Int.reduceAdd, Int.reduceSub, Int.reduceNe, Int.reduceNeg, Int.cast_ofNat_Int, ne_eq, not_true_eq_false, not_false_eq_true])
    rw [x_fdiv (show (0 : Int) < 1 + i by omega) (by omega)]
    (simp only [x_seq, x_nx, x_rt, x_lnx, x_lct, x_lbk, x_lrt, x_bk, x_ct, x_nil, x_ret, x_set, x_asg, x_new, x_frz, x_if, x_drop, x_for, x_gN, x_gT, x_gsN, x_gsC, x_var, x_vvar, x_c, x_bin, x_un, x_of, x_tru, x_tand, x_tor, x_tnot, x_tT, x_and, x_or, x_not, x_eif, x_aN, x_aC, x_tup, x_lst, x_llst, x_call, x_eL, x_lseq, x_rng1, x_comp, x_comp2, x_app, x_ext, x_frzE, x_f1, x_f2, x_fn, x_start, x_rrt, x_rnx, all_D, any_D, x_bN, x_bC, x_asB, x_asI, x_truB, x_truI, x_seqL, x_seqT, x_lenL, x_lenT, x_tupL, x_tupT, x_int, x_wN, x_wC, x_ixT, x_ixL, x_isi, x_is_int_bool, x_is_int_int, x_is_int_str, x_is_int_tuple, x_is_int_list, x_is_int_dict, x_is_tup_bool, x_is_tup_int, x_is_tup_str, x_is_tup_tuple, x_is_tup_list, x_is_tup_dict, x_is_lst_bool, x_is_lst_int, x_is_lst_str, x_is_lst_tuple, x_is_lst_list, x_is_lst_dict, x_is_bl_bool, x_is_bl_int, x_is_bl_str, x_is_bl_tuple, x_is_bl_list, x_is_bl_dict, x_is_non_bool, x_is_non_int, x_is_non_str, x_is_non_tuple, x_is_non_list, x_is_non_dict, x_is_str_bool, x_is_str_int, x_is_str_str, x_is_str_tuple, x_is_str_list, x_is_str_dict, x_ite, x_itm, x_at0, x_at1, x_at2, x_addI, x_subI, x_pow18, x_mod, x_fdiv, x_sq, x_mul, x_mul', x_addT, x_addL, x_gt, x_ge, x_le, x_lt, eqD_int, neD_int, eqD_bool, neD_bool, getS, setS, List.map_cons, List.map_nil, List.length_cons, List.length_nil, List.cons_append, List.nil_append, List.replicate, Option.bind_some, Option.map_some, Option.bind_none, Option.map_none, if_true, if_false, ite_true, ite_false, reduceIte, Nat.reduceAdd, Nat.reduceSub, Nat.reduceLeDiff, Bool.false_eq_true, Nat.reduceEqDiff, Nat.le_refl, LIM, Bool.not_true, Bool.not_false, decide_true, decide_false, decide_eq_true_eq, Int.reduceEq, Int.reduceLT, Int.reduceLE, Int.reduceAdd, Int.reduceSub, Int.reduceNe, Int.reduceNeg, Int.cast_ofNat_Int, ne_eq, not_true_eq_false, not_false_eq_true])
    rw [x_mod hk]
    (simp only [x_seq, x_nx, x_rt, x_lnx, x_lct, x_lbk, x_lrt, x_bk, x_ct, x_nil, x_ret, x_set, x_asg, x_new, x_frz, x_if, x_drop, x_for, x_gN, x_gT, x_gsN, x_gsC, x_var, x_vvar, x_c, x_bin, x_un, x_of, x_tru, x_tand, x_tor, x_tnot, x_tT, x_and, x_or, x_not, x_eif, x_aN, x_aC, x_tup, x_lst, x_llst, x_call, x_eL, x_lseq, x_rng1, x_comp, x_comp2, x_app, x_ext, x_frzE, x_f1, x_f2, x_fn, x_start, x_rrt, x_rnx, all_D, any_D, x_bN, x_bC, x_asB, x_asI, x_truB, x_truI, x_seqL, x_seqT, x_lenL, x_lenT, x_tupL, x_tupT, x_int, x_wN, x_wC, x_ixT, x_ixL, x_isi, x_is_int_bool, x_is_int_int, x_is_int_str, x_is_int_tuple, x_is_int_list, x_is_int_dict, x_is_tup_bool, x_is_tup_int, x_is_tup_str, x_is_tup_tuple, x_is_tup_list, x_is_tup_dict, x_is_lst_bool, x_is_lst_int, x_is_lst_str, x_is_lst_tuple, x_is_lst_list, x_is_lst_dict, x_is_bl_bool, x_is_bl_int, x_is_bl_str, x_is_bl_tuple, x_is_bl_list, x_is_bl_dict, x_is_non_bool, x_is_non_int, x_is_non_str, x_is_non_tuple, x_is_non_list, x_is_non_dict, x_is_str_bool, x_is_str_int, x_is_str_str, x_is_str_tuple, x_is_str_list, x_is_str_dict, x_ite, x_itm, x_at0, x_at1, x_at2, x_addI, x_subI, x_pow18, x_mod, x_fdiv, x_sq, x_mul, x_mul', x_addT, x_addL, x_gt, x_ge, x_le, x_lt, eqD_int, neD_int, eqD_bool, neD_bool, getS, setS, List.map_cons, List.map_nil, List.length_cons, List.length_nil, List.cons_append, List.nil_append, List.replicate, Option.bind_some, Option.map_some, Option.bind_none, Option.map_none, if_true, if_false, ite_true, ite_false, reduceIte, Nat.reduceAdd, Nat.reduceSub, Nat.reduceLeDiff, Bool.false_eq_true, Nat.reduceEqDiff, Nat.le_refl, LIM, Bool.not_true, Bool.not_false, decide_true, decide_false, decide_eq_true_eq, Int.reduceEq, Int.reduceLT, Int.reduceLE, Int.reduceAdd, Int.reduceSub, Int.reduceNe, Int.reduceNeg, Int.cast_ofNat_Int, ne_eq, not_true_eq_false, not_false_eq_true])]
  (simp only [x_seq, x_nx, x_rt, x_lnx, x_lct, x_lbk, x_lrt, x_bk, x_ct, x_nil, x_ret, x_set, x_asg, x_new, x_frz, x_if, x_drop, x_for, x_gN, x_gT, x_gsN, x_gsC, x_var, x_vvar, x_c, x_bin, x_un, x_of, x_tru, x_tand, x_tor, x_tnot, x_tT, x_and, x_or, x_not, x_eif, x_aN, x_aC, x_tup, x_lst, x_llst, x_call, x_eL, x_lseq, x_rng1, x_comp, x_comp2, x_app, x_ext, x_frzE, x_f1, x_f2, x_fn, x_start, x_rrt, x_rnx, all_D, any_D, x_bN, x_bC, x_asB, x_asI, x_truB, x_truI, x_seqL, x_seqT, x_lenL, x_lenT, x_tupL, x_tupT, x_int, x_wN, x_wC, x_ixT, x_ixL, x_isi, x_is_int_bool, x_is_int_int, x_is_int_str, x_is_int_tuple, x_is_int_list, x_is_int_dict, x_is_tup_bool, x_is_tup_int, x_is_tup_str, x_is_tup_tuple, x_is_tup_list, x_is_tup_dict, x_is_lst_bool, x_is_lst_int, x_is_lst_str, x_is_lst_tuple, x_is_lst_list, x_is_lst_dict, x_is_bl_bool, x_is_bl_int, x_is_bl_str, x_is_bl_tuple, x_is_bl_list, x_is_bl_dict, x_is_non_bool, x_is_non_int, x_is_non_str, x_is_non_tuple, x_is_non_list, x_is_non_dict, x_is_str_bool, x_is_str_int, x_is_str_str, x_is_str_tuple, x_is_str_list, x_is_str_dict, x_ite, x_itm, x_at0, x_at1, x_at2, x_addI, x_subI, x_pow18, x_mod, x_fdiv, x_sq, x_mul, x_mul', x_addT, x_addL, x_gt, x_ge, x_le, x_lt, eqD_int, neD_int, eqD_bool, neD_bool, getS, setS, List.map_cons, List.map_nil, List.length_cons, List.length_nil, List.cons_append, List.nil_append, List.replicate, Option.bind_some, Option.map_some, Option.bind_none, Option.map_none, if_true, if_false, ite_true, ite_false, reduceIte, Nat.reduceAdd, Nat.reduceSub, Nat.reduceLeDiff, Bool.false_eq_true, Nat.reduceEqDiff, Nat.le_refl, LIM, Bool.not_true, Bool.not_false, decide_true, decide_false, decide_eq_true_eq, Int.reduceEq, Int.reduceLT, Int.reduceLE, Int.reduceAdd, Int.reduceSub, Int.reduceNe, Int.reduceNeg, Int.cast_ofNat_Int, ne_eq, not_true_eq_false, not_false_eq_true])
  rw [if_pos (by omega)]
  exact ⟨_, rfl⟩
theorem world_q5 (hl : ds.length = 90) (most : D) (dense marked : Int) (hd : 0 < dense) (hk : 0 < marked) (n : Nat) (hn : n ≤ 8) : ∃ w : Wd, w.n = n ∧ (q__law_world_4 [.dat (.list (ds.map PyData.int)), .dat most, .dat (.int n), .dat (.int dense), .dat (.int marked), .un, .un, .un, .un, .un, .un]).bind retO = some (encW w) := by
  obtain ⟨m0, e0⟩ := world_mark hl most (.int dense) marked hk [] 0 (by decide) (by decide) (by decide) .un .un .un .un n hn
  obtain ⟨m1, e1⟩ := world_mark hl most (.int dense) marked hk [encI m0] 1 (by decide) (by decide) (by simp) .un .un .un .un n hn
  obtain ⟨ar, e2⟩ := world_q8 hl most (.int marked) dense hd (.dat (.int 1)) .un .un n hn m0 m1
  refine ⟨⟨n, m0, m1, ar⟩, rfl, ?_⟩
  unfold q__law_world_4 q__law_world_5
  (simp only [x_seq, x_nx, x_rt, x_lnx, x_lct, x_lbk, x_lrt, x_bk, x_ct, x_nil, x_ret, x_set, x_asg, x_new, x_frz, x_if, x_drop, x_for, x_gN, x_gT, x_gsN, x_gsC, x_var, x_vvar, x_c, x_bin, x_un, x_of, x_tru, x_tand, x_tor, x_tnot, x_tT, x_and, x_or, x_not, x_eif, x_aN, x_aC, x_tup, x_lst, x_llst, x_call, x_eL, x_lseq, x_rng1, x_comp, x_comp2, x_app, x_ext, x_frzE, x_f1, x_f2, x_fn, x_start, x_rrt, x_rnx, all_D, any_D, x_bN, x_bC, x_asB, x_asI, x_truB, x_truI, x_seqL, x_seqT, x_lenL, x_lenT, x_tupL, x_tupT, x_int, x_wN, x_wC, x_ixT, x_ixL, x_isi, x_is_int_bool, x_is_int_int, x_is_int_str, x_is_int_tuple, x_is_int_list, x_is_int_dict, x_is_tup_bool, x_is_tup_int, x_is_tup_str, x_is_tup_tuple, x_is_tup_list, x_is_tup_dict, x_is_lst_bool, x_is_lst_int, x_is_lst_str, x_is_lst_tuple, x_is_lst_list, x_is_lst_dict, x_is_bl_bool, x_is_bl_int, x_is_bl_str, x_is_bl_tuple, x_is_bl_list, x_is_bl_dict, x_is_non_bool, x_is_non_int, x_is_non_str, x_is_non_tuple, x_is_non_list, x_is_non_dict, x_is_str_bool, x_is_str_int, x_is_str_str, x_is_str_tuple, x_is_str_list, x_is_str_dict, x_ite, x_itm, x_at0, x_at1, x_at2, x_addI, x_subI, x_pow18, x_mod, x_fdiv, x_sq, x_mul, x_mul', x_addT, x_addL, x_gt, x_ge, x_le, x_lt, eqD_int, neD_int, eqD_bool, neD_bool, getS, setS, List.map_cons, List.map_nil, List.length_cons, List.length_nil, List.cons_append, List.nil_append, List.replicate, Option.bind_some, Option.map_some, Option.bind_none, Option.map_none, if_true, if_false, ite_true, ite_false, reduceIte, Nat.reduceAdd, Nat.reduceSub, Nat.reduceLeDiff, Bool.false_eq_true, Nat.reduceEqDiff, Nat.le_refl, LIM, Bool.not_true, Bool.not_false, decide_true, decide_false, decide_eq_true_eq, Int.reduceEq, Int.reduceLT, Int.reduceLE, Int.reduceAdd, Int.reduceSub, Int.reduceNe, Int.reduceNeg, Int.cast_ofNat_Int, ne_eq, not_true_eq_false, not_false_eq_true])
  rw [show rngD 0 2 = some [.int 0, .int 1] from rfl]
  (simp only [x_seq, x_nx, x_rt, x_lnx, x_lct, x_lbk, x_lrt, x_bk, x_ct, x_nil, x_ret, x_set, x_asg, x_new, x_frz, x_if, x_drop, x_for, x_gN, x_gT, x_gsN, x_gsC, x_var, x_vvar, x_c, x_bin, x_un, x_of, x_tru, x_tand, x_tor, x_tnot, x_tT, x_and, x_or, x_not, x_eif, x_aN, x_aC, x_tup, x_lst, x_llst, x_call, x_eL, x_lseq, x_rng1, x_comp, x_comp2, x_app, x_ext, x_frzE, x_f1, x_f2, x_fn, x_start, x_rrt, x_rnx, all_D, any_D, x_bN, x_bC, x_asB, x_asI, x_truB, x_truI, x_seqL, x_seqT, x_lenL, x_lenT, x_tupL, x_tupT, x_int, x_wN, x_wC, x_ixT, x_ixL, x_isi, x_is_int_bool, x_is_int_int, x_is_int_str, x_is_int_tuple, x_is_int_list, x_is_int_dict, x_is_tup_bool, x_is_tup_int, x_is_tup_str, x_is_tup_tuple, x_is_tup_list, x_is_tup_dict, x_is_lst_bool, x_is_lst_int, x_is_lst_str, x_is_lst_tuple, x_is_lst_list, x_is_lst_dict, x_is_bl_bool, x_is_bl_int, x_is_bl_str, x_is_bl_tuple, x_is_bl_list, x_is_bl_dict, x_is_non_bool, x_is_non_int, x_is_non_str, x_is_non_tuple, x_is_non_list, x_is_non_dict, x_is_str_bool, x_is_str_int, x_is_str_str, x_is_str_tuple, x_is_str_list, x_is_str_dict, x_ite, x_itm, x_at0, x_at1, x_at2, x_addI, x_subI, x_pow18, x_mod, x_fdiv, x_sq, x_mul, x_mul', x_addT, x_addL, x_gt, x_ge, x_le, x_lt, eqD_int, neD_int, eqD_bool, neD_bool, getS, setS, List.map_cons, List.map_nil, List.length_cons, List.length_nil, List.cons_append, List.nil_append, List.replicate, Option.bind_some, Option.map_some, Option.bind_none, Option.map_none, if_true, if_false, ite_true, ite_false, reduceIte, Nat.reduceAdd, Nat.reduceSub, Nat.reduceLeDiff, Bool.false_eq_true, Nat.reduceEqDiff, Nat.le_refl, LIM, Bool.not_true, Bool.not_false, decide_true, decide_false, decide_eq_true_eq, Int.reduceEq, Int.reduceLT, Int.reduceLE, Int.reduceAdd, Int.reduceSub, Int.reduceNe, Int.reduceNeg, Int.cast_ofNat_Int, ne_eq, not_true_eq_false, not_false_eq_true])
  simp only [forD]
  (simp only [x_seq, x_nx, x_rt, x_lnx, x_lct, x_lbk, x_lrt, x_bk, x_ct, x_nil, x_ret, x_set, x_asg, x_new, x_frz, x_if, x_drop, x_for, x_gN, x_gT, x_gsN, x_gsC, x_var, x_vvar, x_c, x_bin, x_un, x_of, x_tru, x_tand, x_tor, x_tnot, x_tT, x_and, x_or, x_not, x_eif, x_aN, x_aC, x_tup, x_lst, x_llst, x_call, x_eL, x_lseq, x_rng1, x_comp, x_comp2, x_app, x_ext, x_frzE, x_f1, x_f2, x_fn, x_start, x_rrt, x_rnx, all_D, any_D, x_bN, x_bC, x_asB, x_asI, x_truB, x_truI, x_seqL, x_seqT, x_lenL, x_lenT, x_tupL, x_tupT, x_int, x_wN, x_wC, x_ixT, x_ixL, x_isi, x_is_int_bool, x_is_int_int, x_is_int_str, x_is_int_tuple, x_is_int_list, x_is_int_dict, x_is_tup_bool, x_is_tup_int, x_is_tup_str, x_is_tup_tuple, x_is_tup_list, x_is_tup_dict, x_is_lst_bool, x_is_lst_int, x_is_lst_str, x_is_lst_tuple, x_is_lst_list, x_is_lst_dict, x_is_bl_bool, x_is_bl_int, x_is_bl_str, x_is_bl_tuple, x_is_bl_list, x_is_bl_dict, x_is_non_bool, x_is_non_int, x_is_non_str, x_is_non_tuple, x_is_non_list, x_is_non_dict, x_is_str_bool, x_is_str_int, x_is_str_str, x_is_str_tuple, x_is_str_list, x_is_str_dict, x_ite, x_itm, x_at0, x_at1, x_at2, x_addI, x_subI, x_pow18, x_mod, x_fdiv, x_sq, x_mul, x_mul', x_addT, x_addL, x_gt, x_ge, x_le, x_lt, eqD_int, neD_int, eqD_bool, neD_bool, getS, setS, List.map_cons, List.map_nil, List.length_cons, List.length_nil, List.cons_append, List.nil_append, List.replicate, Option.bind_some, Option.map_some, Option.bind_none, Option.map_none, if_true, if_false, ite_true, ite_false, reduceIte, Nat.reduceAdd, Nat.reduceSub, Nat.reduceLeDiff, Bool.false_eq_true, Nat.reduceEqDiff, Nat.le_refl, LIM, Bool.not_true, Bool.not_false, decide_true, decide_false, decide_eq_true_eq, Int.reduceEq, Int.reduceLT, Int.reduceLE, Int.reduceAdd, Int.reduceSub, Int.reduceNe, Int.reduceNeg, Int.cast_ofNat_Int, ne_eq, not_true_eq_false, not_false_eq_true])
  rw [List.nil_append] at e0
  rw [e0]
  (simp only [x_seq, x_nx, x_rt, x_lnx, x_lct, x_lbk, x_lrt, x_bk, x_ct, x_nil, x_ret, x_set, x_asg, x_new, x_frz, x_if, x_drop, x_for, x_gN, x_gT, x_gsN, x_gsC, x_var, x_vvar, x_c, x_bin, x_un, x_of, x_tru, x_tand, x_tor, x_tnot, x_tT, x_and, x_or, x_not, x_eif, x_aN, x_aC, x_tup, x_lst, x_llst, x_call, x_eL, x_lseq, x_rng1, x_comp, x_comp2, x_app, x_ext, x_frzE, x_f1, x_f2, x_fn, x_start, x_rrt, x_rnx, all_D, any_D, x_bN, x_bC, x_asB, x_asI, x_truB, x_truI, x_seqL, x_seqT, x_lenL, x_lenT, x_tupL, x_tupT, x_int, x_wN, x_wC, x_ixT, x_ixL, x_isi, x_is_int_bool, x_is_int_int, x_is_int_str, x_is_int_tuple, x_is_int_list, x_is_int_dict, x_is_tup_bool, x_is_tup_int, x_is_tup_str, x_is_tup_tuple, x_is_tup_list, x_is_tup_dict, x_is_lst_bool, x_is_lst_int, x_is_lst_str, x_is_lst_tuple, x_is_lst_list, x_is_lst_dict, x_is_bl_bool, x_is_bl_int, x_is_bl_str, x_is_bl_tuple, x_is_bl_list, x_is_bl_dict, x_is_non_bool, x_is_non_int, x_is_non_str, x_is_non_tuple, x_is_non_list, x_is_non_dict, x_is_str_bool, x_is_str_int, x_is_str_str, x_is_str_tuple, x_is_str_list, x_is_str_dict, x_ite, x_itm, x_at0, x_at1, x_at2, x_addI, x_subI, x_pow18, x_mod, x_fdiv, x_sq, x_mul, x_mul', x_addT, x_addL, x_gt, x_ge, x_le, x_lt, eqD_int, neD_int, eqD_bool, neD_bool, getS, setS, List.map_cons, List.map_nil, List.length_cons, List.length_nil, List.cons_append, List.nil_append, List.replicate, Option.bind_some, Option.map_some, Option.bind_none, Option.map_none, if_true, if_false, ite_true, ite_false, reduceIte, Nat.reduceAdd, Nat.reduceSub, Nat.reduceLeDiff, Bool.false_eq_true, Nat.reduceEqDiff, Nat.le_refl, LIM, Bool.not_true, Bool.not_false, decide_true, decide_false, decide_eq_true_eq, Int.reduceEq, Int.reduceLT, Int.reduceLE, Int.reduceAdd, Int.reduceSub, Int.reduceNe, Int.reduceNeg, Int.cast_ofNat_Int, ne_eq, not_true_eq_false, not_false_eq_true])
  rw [show ([encI m0] ++ [encI m1] : List D) = [encI m0, encI m1] from rfl] at e1
  rw [e1]
  (simp only [x_seq, x_nx, x_rt, x_lnx, x_lct, x_lbk, x_lrt, x_bk, x_ct, x_nil, x_ret, x_set, x_asg, x_new, x_frz, x_if, x_drop, x_for, x_gN, x_gT, x_gsN, x_gsC, x_var, x_vvar, x_c, x_bin, x_un, x_of, x_tru, x_tand, x_tor, x_tnot, x_tT, x_and, x_or, x_not, x_eif, x_aN, x_aC, x_tup, x_lst, x_llst, x_call, x_eL, x_lseq, x_rng1, x_comp, x_comp2, x_app, x_ext, x_frzE, x_f1, x_f2, x_fn, x_start, x_rrt, x_rnx, all_D, any_D, x_bN, x_bC, x_asB, x_asI, x_truB, x_truI, x_seqL, x_seqT, x_lenL, x_lenT, x_tupL, x_tupT, x_int, x_wN, x_wC, x_ixT, x_ixL, x_isi, x_is_int_bool, x_is_int_int, x_is_int_str, x_is_int_tuple, x_is_int_list, x_is_int_dict, x_is_tup_bool, x_is_tup_int, x_is_tup_str, x_is_tup_tuple, x_is_tup_list, x_is_tup_dict, x_is_lst_bool, x_is_lst_int, x_is_lst_str, x_is_lst_tuple, x_is_lst_list, x_is_lst_dict, x_is_bl_bool, x_is_bl_int, x_is_bl_str, x_is_bl_tuple, x_is_bl_list, x_is_bl_dict, x_is_non_bool, x_is_non_int, x_is_non_str, x_is_non_tuple, x_is_non_list, x_is_non_dict, x_is_str_bool, x_is_str_int, x_is_str_str, x_is_str_tuple, x_is_str_list, x_is_str_dict, x_ite, x_itm, x_at0, x_at1, x_at2, x_addI, x_subI, x_pow18, x_mod, x_fdiv, x_sq, x_mul, x_mul', x_addT, x_addL, x_gt, x_ge, x_le, x_lt, eqD_int, neD_int, eqD_bool, neD_bool, getS, setS, List.map_cons, List.map_nil, List.length_cons, List.length_nil, List.cons_append, List.nil_append, List.replicate, Option.bind_some, Option.map_some, Option.bind_none, Option.map_none, if_true, if_false, ite_true, ite_false, reduceIte, Nat.reduceAdd, Nat.reduceSub, Nat.reduceLeDiff, Bool.false_eq_true, Nat.reduceEqDiff, Nat.le_refl, LIM, Bool.not_true, Bool.not_false, decide_true, decide_false, decide_eq_true_eq, Int.reduceEq, Int.reduceLT, Int.reduceLE, Int.reduceAdd, Int.reduceSub, Int.reduceNe, Int.reduceNeg, Int.cast_ofNat_Int, ne_eq, not_true_eq_false, not_false_eq_true])
  unfold q__law_world_6 q__law_world_7
  (simp only [x_seq, x_nx, x_rt, x_lnx, x_lct, x_lbk, x_lrt, x_bk, x_ct, x_nil, x_ret, x_set, x_asg, x_new, x_frz, x_if, x_drop, x_for, x_gN, x_gT, x_gsN, x_gsC, x_var, x_vvar, x_c, x_bin, x_un, x_of, x_tru, x_tand, x_tor, x_tnot, x_tT, x_and, x_or, x_not, x_eif, x_aN, x_aC, x_tup, x_lst, x_llst, x_call, x_eL, x_lseq, x_rng1, x_comp, x_comp2, x_app, x_ext, x_frzE, x_f1, x_f2, x_fn, x_start, x_rrt, x_rnx, all_D, any_D, x_bN, x_bC, x_asB, x_asI, x_truB, x_truI, x_seqL, x_seqT, x_lenL, x_lenT, x_tupL, x_tupT, x_int, x_wN, x_wC, x_ixT, x_ixL, x_isi, x_is_int_bool, x_is_int_int, x_is_int_str, x_is_int_tuple, x_is_int_list, x_is_int_dict, x_is_tup_bool, x_is_tup_int, x_is_tup_str, x_is_tup_tuple, x_is_tup_list, x_is_tup_dict, x_is_lst_bool, x_is_lst_int, x_is_lst_str, x_is_lst_tuple, x_is_lst_list, x_is_lst_dict, x_is_bl_bool, x_is_bl_int, x_is_bl_str, x_is_bl_tuple, x_is_bl_list, x_is_bl_dict, x_is_non_bool, x_is_non_int, x_is_non_str, x_is_non_tuple, x_is_non_list, x_is_non_dict, x_is_str_bool, x_is_str_int, x_is_str_str, x_is_str_tuple, x_is_str_list, x_is_str_dict, x_ite, x_itm, x_at0, x_at1, x_at2, x_addI, x_subI, x_pow18, x_mod, x_fdiv, x_sq, x_mul, x_mul', x_addT, x_addL, x_gt, x_ge, x_le, x_lt, eqD_int, neD_int, eqD_bool, neD_bool, getS, setS, List.map_cons, List.map_nil, List.length_cons, List.length_nil, List.cons_append, List.nil_append, List.replicate, Option.bind_some, Option.map_some, Option.bind_none, Option.map_none, if_true, if_false, ite_true, ite_false, reduceIte, Nat.reduceAdd, Nat.reduceSub, Nat.reduceLeDiff, Bool.false_eq_true, Nat.reduceEqDiff, Nat.le_refl, LIM, Bool.not_true, Bool.not_false, decide_true, decide_false, decide_eq_true_eq, Int.reduceEq, Int.reduceLT, Int.reduceLE, Int.reduceAdd, Int.reduceSub, Int.reduceNe, Int.reduceNeg, Int.cast_ofNat_Int, ne_eq, not_true_eq_false, not_false_eq_true])
  exact e2
theorem pick4 (a b c d : Int) (k : Int) (ha : 0 < a) (hb : 0 < b) (hc : 0 < c) (hd : 0 < d) : ∃ x : Int, 0 < x ∧ atI [.int a, .int b, .int c, .int d] (k % 4) = some (PyData.int x) := by
  obtain ⟨x, hx, e⟩ := at_pick [PyData.int a, PyData.int b, PyData.int c, PyData.int d] (k % 4) (Int.emod_nonneg k (by decide)) (by have := Int.emod_lt_of_pos k (show (0 : Int) < 4 by decide); simpa using this)
  simp only [List.mem_cons, List.not_mem_nil, or_false] at hx
  rcases hx with rfl | rfl | rfl | rfl
  · exact ⟨a, ha, e⟩
  · exact ⟨b, hb, e⟩
  · exact ⟨c, hc, e⟩
  · exact ⟨d, hd, e⟩
theorem world_eval (most : Nat) (hm1 : 1 ≤ most) (hm2 : most ≤ 8) (hl : ds.length = 90) : ∃ w, m__law_world [.list (ds.map PyData.int), .int most] = some (encW w) ∧ 1 ≤ w.n ∧ w.n ≤ most := by
  have hmost : (0 : Int) < most := by omega
  have h1 := Int.emod_nonneg (nth ds (Int.toNat 0)) (show (most : Int) ≠ 0 by omega)
  have h2 := Int.emod_lt_of_pos (nth ds (Int.toNat 0)) hmost
  obtain ⟨n, hn⟩ : ∃ n : Nat, 1 + nth ds (Int.toNat 0) % most = (n : Int) := ⟨(1 + nth ds (Int.toNat 0) % most).toNat, by omega⟩
  have rest : ∃ w, (q__law_world_2 [.dat (.list (ds.map PyData.int)), .dat (.int most), .dat (.int n), .un, .un, .un, .un, .un, .un, .un, .un]).bind retO = some (encW w) ∧ 1 ≤ w.n ∧ w.n ≤ most := by
    obtain ⟨dense, hd, e1⟩ := pick4 2 3 5 3 (nth ds (Int.toNat 1) / 6) (by decide) (by decide) (by decide) (by decide)
    obtain ⟨marked, hk, e2⟩ := pick4 2 9999 3 9999 (nth ds (Int.toNat 1) / 24) (by decide) (by decide) (by decide) (by decide)
    obtain ⟨w, hw, e3⟩ := world_q5 hl (.int most) dense marked hd hk n (by omega)
    refine ⟨w, ?_, by omega, by omega⟩
    unfold q__law_world_2 q__law_world_3
    (simp only [x_seq, x_nx, x_rt, x_lnx, x_lct, x_lbk, x_lrt, x_bk, x_ct, x_nil, x_ret, x_set, x_asg, x_new, x_frz, x_if, x_drop, x_for, x_gN, x_gT, x_gsN, x_gsC, x_var, x_vvar, x_c, x_bin, x_un, x_of, x_tru, x_tand, x_tor, x_tnot, x_tT, x_and, x_or, x_not, x_eif, x_aN, x_aC, x_tup, x_lst, x_llst, x_call, x_eL, x_lseq, x_rng1, x_comp, x_comp2, x_app, x_ext, x_frzE, x_f1, x_f2, x_fn, x_start, x_rrt, x_rnx, all_D, any_D, x_bN, x_bC, x_asB, x_asI, x_truB, x_truI, x_seqL, x_seqT, x_lenL, x_lenT, x_tupL, x_tupT, x_int, x_wN, x_wC, x_ixT, x_ixL, x_isi, x_is_int_bool, x_is_int_int, x_is_int_str, x_is_int_tuple, x_is_int_list, x_is_int_dict, x_is_tup_bool, x_is_tup_int, x_is_tup_str, x_is_tup_tuple, x_is_tup_list, x_is_tup_dict, x_is_lst_bool, x_is_lst_int, x_is_lst_str, x_is_lst_tuple, x_is_lst_list, x_is_lst_dict, x_is_bl_bool, x_is_bl_int, x_is_bl_str, x_is_bl_tuple, x_is_bl_list, x_is_bl_dict, x_is_non_bool, x_is_non_int, x_is_non_str, x_is_non_tuple, x_is_non_list, x_is_non_dict, x_is_str_bool, x_is_str_int, x_is_str_str, x_is_str_tuple, x_is_str_list, x_is_str_dict, x_ite, x_itm, x_at0, x_at1, x_at2, x_addI, x_subI, x_pow18, x_mod, x_fdiv, x_sq, x_mul, x_mul', x_addT, x_addL, x_gt, x_ge, x_le, x_lt, eqD_int, neD_int, eqD_bool, neD_bool, getS, setS, List.map_cons, List.map_nil, List.length_cons, List.length_nil, List.cons_append, List.nil_append, List.replicate, Option.bind_some, Option.map_some, Option.bind_none, Option.map_none, if_true, if_false, ite_true, ite_false, reduceIte, Nat.reduceAdd, Nat.reduceSub, Nat.reduceLeDiff, Bool.false_eq_true, Nat.reduceEqDiff, Nat.le_refl, LIM, Bool.not_true, Bool.not_false, decide_true, decide_false, decide_eq_true_eq, Int.reduceEq, Int.reduceLT, Int.reduceLE, Int.reduceAdd, Int.reduceSub, Int.reduceNe, Int.reduceNeg, Int.cast_ofNat_Int, ne_eq, not_true_eq_false, not_false_eq_true])
    rw [at_draw hl 1 (by decide) (by decide)]
    (simp only [x_seq, x_nx, x_rt, x_lnx, x_lct, x_lbk, x_lrt, x_bk, x_ct, x_nil, x_ret, x_set, x_asg, x_new, x_frz, x_if, x_drop, x_for, x_gN, x_gT, x_gsN, x_gsC, x_var, x_vvar, x_c, x_bin, x_un, x_of, x_tru, x_tand, x_tor, x_tnot, x_tT, x_and, x_or, x_not, x_eif, x_aN, x_aC, x_tup, x_lst, x_llst, x_call, x_eL, x_lseq, x_rng1, x_comp, x_comp2, x_app, x_ext, x_frzE, x_f1, x_f2, x_fn, x_start, x_rrt, x_rnx, all_D, any_D, x_bN, x_bC, x_asB, x_asI, x_truB, x_truI, x_seqL, x_seqT, x_lenL, x_lenT, x_tupL, x_tupT, x_int, x_wN, x_wC, x_ixT, x_ixL, x_isi, x_is_int_bool, x_is_int_int, x_is_int_str, x_is_int_tuple, x_is_int_list, x_is_int_dict, x_is_tup_bool, x_is_tup_int, x_is_tup_str, x_is_tup_tuple, x_is_tup_list, x_is_tup_dict, x_is_lst_bool, x_is_lst_int, x_is_lst_str, x_is_lst_tuple, x_is_lst_list, x_is_lst_dict, x_is_bl_bool, x_is_bl_int, x_is_bl_str, x_is_bl_tuple, x_is_bl_list, x_is_bl_dict, x_is_non_bool, x_is_non_int, x_is_non_str, x_is_non_tuple, x_is_non_list, x_is_non_dict, x_is_str_bool, x_is_str_int, x_is_str_str, x_is_str_tuple, x_is_str_list, x_is_str_dict, x_ite, x_itm, x_at0, x_at1, x_at2, x_addI, x_subI, x_pow18, x_mod, x_fdiv, x_sq, x_mul, x_mul', x_addT, x_addL, x_gt, x_ge, x_le, x_lt, eqD_int, neD_int, eqD_bool, neD_bool, getS, setS, List.map_cons, List.map_nil, List.length_cons, List.length_nil, List.cons_append, List.nil_append, List.replicate, Option.bind_some, Option.map_some, Option.bind_none, Option.map_none, if_true, if_false, ite_true, ite_false, reduceIte, Nat.reduceAdd, Nat.reduceSub, Nat.reduceLeDiff, Bool.false_eq_true, Nat.reduceEqDiff, Nat.le_refl, LIM, Bool.not_true, Bool.not_false, decide_true, decide_false, decide_eq_true_eq, Int.reduceEq, Int.reduceLT, Int.reduceLE, Int.reduceAdd, Int.reduceSub, Int.reduceNe, Int.reduceNeg, Int.cast_ofNat_Int, ne_eq, not_true_eq_false, not_false_eq_true])
    rw [e1]
    (simp only [x_seq, x_nx, x_rt, x_lnx, x_lct, x_lbk, x_lrt, x_bk, x_ct, x_nil, x_ret, x_set, x_asg, x_new, x_frz, x_if, x_drop, x_for, x_gN, x_gT, x_gsN, x_gsC, x_var, x_vvar, x_c, x_bin, x_un, x_of, x_tru, x_tand, x_tor, x_tnot, x_tT, x_and, x_or, x_not, x_eif, x_aN, x_aC, x_tup, x_lst, x_llst, x_call, x_eL, x_lseq, x_rng1, x_comp, x_comp2, x_app, x_ext, x_frzE, x_f1, x_f2, x_fn, x_start, x_rrt, x_rnx, all_D, any_D, x_bN, x_bC, x_asB, x_asI, x_truB, x_truI, x_seqL, x_seqT, x_lenL, x_lenT, x_tupL, x_tupT, x_int, x_wN, x_wC, x_ixT, x_ixL, x_isi, x_is_int_bool, x_is_int_int, x_is_int_str, x_is_int_tuple, x_is_int_list, x_is_int_dict, x_is_tup_bool, x_is_tup_int, x_is_tup_str, x_is_tup_tuple, x_is_tup_list, x_is_tup_dict, x_is_lst_bool, x_is_lst_int, x_is_lst_str, x_is_lst_tuple, x_is_lst_list, x_is_lst_dict, x_is_bl_bool, x_is_bl_int, x_is_bl_str, x_is_bl_tuple, x_is_bl_list, x_is_bl_dict, x_is_non_bool, x_is_non_int, x_is_non_str, x_is_non_tuple, x_is_non_list, x_is_non_dict, x_is_str_bool, x_is_str_int, x_is_str_str, x_is_str_tuple, x_is_str_list, x_is_str_dict, x_ite, x_itm, x_at0, x_at1, x_at2, x_addI, x_subI, x_pow18, x_mod, x_fdiv, x_sq, x_mul, x_mul', x_addT, x_addL, x_gt, x_ge, x_le, x_lt, eqD_int, neD_int, eqD_bool, neD_bool, getS, setS, List.map_cons, List.map_nil, List.length_cons, List.length_nil, List.cons_append, List.nil_append, List.replicate, Option.bind_some, Option.map_some, Option.bind_none, Option.map_none, if_true, if_false, ite_true, ite_false, reduceIte, Nat.reduceAdd, Nat.reduceSub, Nat.reduceLeDiff, Bool.false_eq_true, Nat.reduceEqDiff, Nat.le_refl, LIM, Bool.not_true, Bool.not_false, decide_true, decide_false, decide_eq_true_eq, Int.reduceEq, Int.reduceLT, Int.reduceLE, Int.reduceAdd, Int.reduceSub, Int.reduceNe, Int.reduceNeg, Int.cast_ofNat_Int, ne_eq, not_true_eq_false, not_false_eq_true])
    rw [at_draw hl 1 (by decide) (by decide)]
    (simp only [x_seq, x_nx, x_rt, x_lnx, x_lct, x_lbk, x_lrt, x_bk, x_ct, x_nil, x_ret, x_set, x_asg, x_new, x_frz, x_if, x_drop, x_for, x_gN, x_gT, x_gsN, x_gsC, x_var, x_vvar, x_c, x_bin, x_un, x_of, x_tru, x_tand, x_tor, x_tnot, x_tT, x_and, x_or, x_not, x_eif, x_aN, x_aC, x_tup, x_lst, x_llst, x_call, x_eL, x_lseq, x_rng1, x_comp, x_comp2, x_app, x_ext, x_frzE, x_f1, x_f2, x_fn, x_start, x_rrt, x_rnx, all_D, any_D, x_bN, x_bC, x_asB, x_asI, x_truB, x_truI, x_seqL, x_seqT, x_lenL, x_lenT, x_tupL, x_tupT, x_int, x_wN, x_wC, x_ixT, x_ixL, x_isi, x_is_int_bool, x_is_int_int, x_is_int_str, x_is_int_tuple, x_is_int_list, x_is_int_dict, x_is_tup_bool, x_is_tup_int, x_is_tup_str, x_is_tup_tuple, x_is_tup_list, x_is_tup_dict, x_is_lst_bool, x_is_lst_int, x_is_lst_str, x_is_lst_tuple, x_is_lst_list, x_is_lst_dict, x_is_bl_bool, x_is_bl_int, x_is_bl_str, x_is_bl_tuple, x_is_bl_list, x_is_bl_dict, x_is_non_bool, x_is_non_int, x_is_non_str, x_is_non_tuple, x_is_non_list, x_is_non_dict, x_is_str_bool, x_is_str_int, x_is_str_str, x_is_str_tuple, x_is_str_list, x_is_str_dict, x_ite, x_itm, x_at0, x_at1, x_at2, x_addI, x_subI, x_pow18, x_mod, x_fdiv, x_sq, x_mul, x_mul', x_addT, x_addL, x_gt, x_ge, x_le, x_lt, eqD_int, neD_int, eqD_bool, neD_bool, getS, setS, List.map_cons, List.map_nil, List.length_cons, List.length_nil, List.cons_append, List.nil_append, List.replicate, Option.bind_some, Option.map_some, Option.bind_none, Option.map_none, if_true, if_false, ite_true, ite_false, reduceIte, Nat.reduceAdd, Nat.reduceSub, Nat.reduceLeDiff, Bool.false_eq_true, Nat.reduceEqDiff, Nat.le_refl, LIM, Bool.not_true, Bool.not_false, decide_true, decide_false, decide_eq_true_eq, Int.reduceEq, Int.reduceLT, Int.reduceLE, Int.reduceAdd, Int.reduceSub, Int.reduceNe, Int.reduceNeg, Int.cast_ofNat_Int, ne_eq, not_true_eq_false, not_false_eq_true])
    rw [e2]
    (simp only [x_seq, x_nx, x_rt, x_lnx, x_lct, x_lbk, x_lrt, x_bk, x_ct, x_nil, x_ret, x_set, x_asg, x_new, x_frz, x_if, x_drop, x_for, x_gN, x_gT, x_gsN, x_gsC, x_var, x_vvar, x_c, x_bin, x_un, x_of, x_tru, x_tand, x_tor, x_tnot, x_tT, x_and, x_or, x_not, x_eif, x_aN, x_aC, x_tup, x_lst, x_llst, x_call, x_eL, x_lseq, x_rng1, x_comp, x_comp2, x_app, x_ext, x_frzE, x_f1, x_f2, x_fn, x_start, x_rrt, x_rnx, all_D, any_D, x_bN, x_bC, x_asB, x_asI, x_truB, x_truI, x_seqL, x_seqT, x_lenL, x_lenT, x_tupL, x_tupT, x_int, x_wN, x_wC, x_ixT, x_ixL, x_isi, x_is_int_bool, x_is_int_int, x_is_int_str, x_is_int_tuple, x_is_int_list, x_is_int_dict, x_is_tup_bool, x_is_tup_int, x_is_tup_str, x_is_tup_tuple, x_is_tup_list, x_is_tup_dict, x_is_lst_bool, x_is_lst_int, x_is_lst_str, x_is_lst_tuple, x_is_lst_list, x_is_lst_dict, x_is_bl_bool, x_is_bl_int, x_is_bl_str, x_is_bl_tuple, x_is_bl_list, x_is_bl_dict, x_is_non_bool, x_is_non_int, x_is_non_str, x_is_non_tuple, x_is_non_list, x_is_non_dict, x_is_str_bool, x_is_str_int, x_is_str_str, x_is_str_tuple, x_is_str_list, x_is_str_dict, x_ite, x_itm, x_at0, x_at1, x_at2, x_addI, x_subI, x_pow18, x_mod, x_fdiv, x_sq, x_mul, x_mul', x_addT, x_addL, x_gt, x_ge, x_le, x_lt, eqD_int, neD_int, eqD_bool, neD_bool, getS, setS, List.map_cons, List.map_nil, List.length_cons, List.length_nil, List.cons_append, List.nil_append, List.replicate, Option.bind_some, Option.map_some, Option.bind_none, Option.map_none, if_true, if_false, ite_true, ite_false, reduceIte, Nat.reduceAdd, Nat.reduceSub, Nat.reduceLeDiff, Bool.false_eq_true, Nat.reduceEqDiff, Nat.le_refl, LIM, Bool.not_true, Bool.not_false, decide_true, decide_false, decide_eq_true_eq, Int.reduceEq, Int.reduceLT, Int.reduceLE, Int.reduceAdd, Int.reduceSub, Int.reduceNe, Int.reduceNeg, Int.cast_ofNat_Int, ne_eq, not_true_eq_false, not_false_eq_true])
    exact e3
  unfold m__law_world S__law_world q__law_world_0
  (simp only [x_seq, x_nx, x_rt, x_lnx, x_lct, x_lbk, x_lrt, x_bk, x_ct, x_nil, x_ret, x_set, x_asg, x_new, x_frz, x_if, x_drop, x_for, x_gN, x_gT, x_gsN, x_gsC, x_var, x_vvar, x_c, x_bin, x_un, x_of, x_tru, x_tand, x_tor, x_tnot, x_tT, x_and, x_or, x_not, x_eif, x_aN, x_aC, x_tup, x_lst, x_llst, x_call, x_eL, x_lseq, x_rng1, x_comp, x_comp2, x_app, x_ext, x_frzE, x_f1, x_f2, x_fn, x_start, x_rrt, x_rnx, all_D, any_D, x_bN, x_bC, x_asB, x_asI, x_truB, x_truI, x_seqL, x_seqT, x_lenL, x_lenT, x_tupL, x_tupT, x_int, x_wN, x_wC, x_ixT, x_ixL, x_isi, x_is_int_bool, x_is_int_int, x_is_int_str, x_is_int_tuple, x_is_int_list, x_is_int_dict, x_is_tup_bool, x_is_tup_int, x_is_tup_str, x_is_tup_tuple, x_is_tup_list, x_is_tup_dict, x_is_lst_bool, x_is_lst_int, x_is_lst_str, x_is_lst_tuple, x_is_lst_list, x_is_lst_dict, x_is_bl_bool, x_is_bl_int, x_is_bl_str, x_is_bl_tuple, x_is_bl_list, x_is_bl_dict, x_is_non_bool, x_is_non_int, x_is_non_str, x_is_non_tuple, x_is_non_list, x_is_non_dict, x_is_str_bool, x_is_str_int, x_is_str_str, x_is_str_tuple, x_is_str_list, x_is_str_dict, x_ite, x_itm, x_at0, x_at1, x_at2, x_addI, x_subI, x_pow18, x_mod, x_fdiv, x_sq, x_mul, x_mul', x_addT, x_addL, x_gt, x_ge, x_le, x_lt, eqD_int, neD_int, eqD_bool, neD_bool, getS, setS, List.map_cons, List.map_nil, List.length_cons, List.length_nil, List.cons_append, List.nil_append, List.replicate, Option.bind_some, Option.map_some, Option.bind_none, Option.map_none, if_true, if_false, ite_true, ite_false, reduceIte, Nat.reduceAdd, Nat.reduceSub, Nat.reduceLeDiff, Bool.false_eq_true, Nat.reduceEqDiff, Nat.le_refl, LIM, Bool.not_true, Bool.not_false, decide_true, decide_false, decide_eq_true_eq, Int.reduceEq, Int.reduceLT, Int.reduceLE, Int.reduceAdd, Int.reduceSub, Int.reduceNe, Int.reduceNeg, Int.cast_ofNat_Int, ne_eq, not_true_eq_false, not_false_eq_true])
  rw [at_draw hl 0 (by decide) (by decide)]
  (simp only [x_seq, x_nx, x_rt, x_lnx, x_lct, x_lbk, x_lrt, x_bk, x_ct, x_nil, x_ret, x_set, x_asg, x_new, x_frz, x_if, x_drop, x_for, x_gN, x_gT, x_gsN, x_gsC, x_var, x_vvar, x_c, x_bin, x_un, x_of, x_tru, x_tand, x_tor, x_tnot, x_tT, x_and, x_or, x_not, x_eif, x_aN, x_aC, x_tup, x_lst, x_llst, x_call, x_eL, x_lseq, x_rng1, x_comp, x_comp2, x_app, x_ext, x_frzE, x_f1, x_f2, x_fn, x_start, x_rrt, x_rnx, all_D, any_D, x_bN, x_bC, x_asB, x_asI, x_truB, x_truI, x_seqL, x_seqT, x_lenL, x_lenT, x_tupL, x_tupT, x_int, x_wN, x_wC, x_ixT, x_ixL, x_isi, x_is_int_bool, x_is_int_int, x_is_int_str, x_is_int_tuple, x_is_int_list, x_is_int_dict, x_is_tup_bool, x_is_tup_int, x_is_tup_str, x_is_tup_tuple, x_is_tup_list, x_is_tup_dict, x_is_lst_bool, x_is_lst_int, x_is_lst_str, x_is_lst_tuple, x_is_lst_list, x_is_lst_dict, x_is_bl_bool, x_is_bl_int, x_is_bl_str, x_is_bl_tuple, x_is_bl_list, x_is_bl_dict, x_is_non_bool, x_is_non_int, x_is_non_str, x_is_non_tuple, x_is_non_list, x_is_non_dict, x_is_str_bool, x_is_str_int, x_is_str_str, x_is_str_tuple, x_is_str_list, x_is_str_dict, x_ite, x_itm, x_at0, x_at1, x_at2, x_addI, x_subI, x_pow18, x_mod, x_fdiv, x_sq, x_mul, x_mul', x_addT, x_addL, x_gt, x_ge, x_le, x_lt, eqD_int, neD_int, eqD_bool, neD_bool, getS, setS, List.map_cons, List.map_nil, List.length_cons, List.length_nil, List.cons_append, List.nil_append, List.replicate, Option.bind_some, Option.map_some, Option.bind_none, Option.map_none, if_true, if_false, ite_true, ite_false, reduceIte, Nat.reduceAdd, Nat.reduceSub, Nat.reduceLeDiff, Bool.false_eq_true, Nat.reduceEqDiff, Nat.le_refl, LIM, Bool.not_true, Bool.not_false, decide_true, decide_false, decide_eq_true_eq, Int.reduceEq, Int.reduceLT, Int.reduceLE, Int.reduceAdd, Int.reduceSub, Int.reduceNe, Int.reduceNeg, Int.cast_ofNat_Int, ne_eq, not_true_eq_false, not_false_eq_true])
  rw [x_mod hmost]
  (simp only [x_seq, x_nx, x_rt, x_lnx, x_lct, x_lbk, x_lrt, x_bk, x_ct, x_nil, x_ret, x_set, x_asg, x_new, x_frz, x_if, x_drop, x_for, x_gN, x_gT, x_gsN, x_gsC, x_var, x_vvar, x_c, x_bin, x_un, x_of, x_tru, x_tand, x_tor, x_tnot, x_tT, x_and, x_or, x_not, x_eif, x_aN, x_aC, x_tup, x_lst, x_llst, x_call, x_eL, x_lseq, x_rng1, x_comp, x_comp2, x_app, x_ext, x_frzE, x_f1, x_f2, x_fn, x_start, x_rrt, x_rnx, all_D, any_D, x_bN, x_bC, x_asB, x_asI, x_truB, x_truI, x_seqL, x_seqT, x_lenL, x_lenT, x_tupL, x_tupT, x_int, x_wN, x_wC, x_ixT, x_ixL, x_isi, x_is_int_bool, x_is_int_int, x_is_int_str, x_is_int_tuple, x_is_int_list, x_is_int_dict, x_is_tup_bool, x_is_tup_int, x_is_tup_str, x_is_tup_tuple, x_is_tup_list, x_is_tup_dict, x_is_lst_bool, x_is_lst_int, x_is_lst_str, x_is_lst_tuple, x_is_lst_list, x_is_lst_dict, x_is_bl_bool, x_is_bl_int, x_is_bl_str, x_is_bl_tuple, x_is_bl_list, x_is_bl_dict, x_is_non_bool, x_is_non_int, x_is_non_str, x_is_non_tuple, x_is_non_list, x_is_non_dict, x_is_str_bool, x_is_str_int, x_is_str_str, x_is_str_tuple, x_is_str_list, x_is_str_dict, x_ite, x_itm, x_at0, x_at1, x_at2, x_addI, x_subI, x_pow18, x_mod, x_fdiv, x_sq, x_mul, x_mul', x_addT, x_addL, x_gt, x_ge, x_le, x_lt, eqD_int, neD_int, eqD_bool, neD_bool, getS, setS, List.map_cons, List.map_nil, List.length_cons, List.length_nil, List.cons_append, List.nil_append, List.replicate, Option.bind_some, Option.map_some, Option.bind_none, Option.map_none, if_true, if_false, ite_true, ite_false, reduceIte, Nat.reduceAdd, Nat.reduceSub, Nat.reduceLeDiff, Bool.false_eq_true, Nat.reduceEqDiff, Nat.le_refl, LIM, Bool.not_true, Bool.not_false, decide_true, decide_false, decide_eq_true_eq, Int.reduceEq, Int.reduceLT, Int.reduceLE, Int.reduceAdd, Int.reduceSub, Int.reduceNe, Int.reduceNeg, Int.cast_ofNat_Int, ne_eq, not_true_eq_false, not_false_eq_true])
  rw [hn]
  unfold q__law_world_1
  (simp only [x_seq, x_nx, x_rt, x_lnx, x_lct, x_lbk, x_lrt, x_bk, x_ct, x_nil, x_ret, x_set, x_asg, x_new, x_frz, x_if, x_drop, x_for, x_gN, x_gT, x_gsN, x_gsC, x_var, x_vvar, x_c, x_bin, x_un, x_of, x_tru, x_tand, x_tor, x_tnot, x_tT, x_and, x_or, x_not, x_eif, x_aN, x_aC, x_tup, x_lst, x_llst, x_call, x_eL, x_lseq, x_rng1, x_comp, x_comp2, x_app, x_ext, x_frzE, x_f1, x_f2, x_fn, x_start, x_rrt, x_rnx, all_D, any_D, x_bN, x_bC, x_asB, x_asI, x_truB, x_truI, x_seqL, x_seqT, x_lenL, x_lenT, x_tupL, x_tupT, x_int, x_wN, x_wC, x_ixT, x_ixL, x_isi, x_is_int_bool, x_is_int_int, x_is_int_str, x_is_int_tuple, x_is_int_list, x_is_int_dict, x_is_tup_bool, x_is_tup_int, x_is_tup_str, x_is_tup_tuple, x_is_tup_list, x_is_tup_dict, x_is_lst_bool, x_is_lst_int, x_is_lst_str, x_is_lst_tuple, x_is_lst_list, x_is_lst_dict, x_is_bl_bool, x_is_bl_int, x_is_bl_str, x_is_bl_tuple, x_is_bl_list, x_is_bl_dict, x_is_non_bool, x_is_non_int, x_is_non_str, x_is_non_tuple, x_is_non_list, x_is_non_dict, x_is_str_bool, x_is_str_int, x_is_str_str, x_is_str_tuple, x_is_str_list, x_is_str_dict, x_ite, x_itm, x_at0, x_at1, x_at2, x_addI, x_subI, x_pow18, x_mod, x_fdiv, x_sq, x_mul, x_mul', x_addT, x_addL, x_gt, x_ge, x_le, x_lt, eqD_int, neD_int, eqD_bool, neD_bool, getS, setS, List.map_cons, List.map_nil, List.length_cons, List.length_nil, List.cons_append, List.nil_append, List.replicate, Option.bind_some, Option.map_some, Option.bind_none, Option.map_none, if_true, if_false, ite_true, ite_false, reduceIte, Nat.reduceAdd, Nat.reduceSub, Nat.reduceLeDiff, Bool.false_eq_true, Nat.reduceEqDiff, Nat.le_refl, LIM, Bool.not_true, Bool.not_false, decide_true, decide_false, decide_eq_true_eq, Int.reduceEq, Int.reduceLT, Int.reduceLE, Int.reduceAdd, Int.reduceSub, Int.reduceNe, Int.reduceNeg, Int.cast_ofNat_Int, ne_eq, not_true_eq_false, not_false_eq_true])
  rw [at_draw hl 1 (by decide) (by decide), at_draw hl 2 (by decide) (by decide)]
  (simp only [x_seq, x_nx, x_rt, x_lnx, x_lct, x_lbk, x_lrt, x_bk, x_ct, x_nil, x_ret, x_set, x_asg, x_new, x_frz, x_if, x_drop, x_for, x_gN, x_gT, x_gsN, x_gsC, x_var, x_vvar, x_c, x_bin, x_un, x_of, x_tru, x_tand, x_tor, x_tnot, x_tT, x_and, x_or, x_not, x_eif, x_aN, x_aC, x_tup, x_lst, x_llst, x_call, x_eL, x_lseq, x_rng1, x_comp, x_comp2, x_app, x_ext, x_frzE, x_f1, x_f2, x_fn, x_start, x_rrt, x_rnx, all_D, any_D, x_bN, x_bC, x_asB, x_asI, x_truB, x_truI, x_seqL, x_seqT, x_lenL, x_lenT, x_tupL, x_tupT, x_int, x_wN, x_wC, x_ixT, x_ixL, x_isi, x_is_int_bool, x_is_int_int, x_is_int_str, x_is_int_tuple, x_is_int_list, x_is_int_dict, x_is_tup_bool, x_is_tup_int, x_is_tup_str, x_is_tup_tuple, x_is_tup_list, x_is_tup_dict, x_is_lst_bool, x_is_lst_int, x_is_lst_str, x_is_lst_tuple, x_is_lst_list, x_is_lst_dict, x_is_bl_bool, x_is_bl_int, x_is_bl_str, x_is_bl_tuple, x_is_bl_list, x_is_bl_dict, x_is_non_bool, x_is_non_int, x_is_non_str, x_is_non_tuple, x_is_non_list, x_is_non_dict, x_is_str_bool, x_is_str_int, x_is_str_str, x_is_str_tuple, x_is_str_list, x_is_str_dict, x_ite, x_itm, x_at0, x_at1, x_at2, x_addI, x_subI, x_pow18, x_mod, x_fdiv, x_sq, x_mul, x_mul', x_addT, x_addL, x_gt, x_ge, x_le, x_lt, eqD_int, neD_int, eqD_bool, neD_bool, getS, setS, List.map_cons, List.map_nil, List.length_cons, List.length_nil, List.cons_append, List.nil_append, List.replicate, Option.bind_some, Option.map_some, Option.bind_none, Option.map_none, if_true, if_false, ite_true, ite_false, reduceIte, Nat.reduceAdd, Nat.reduceSub, Nat.reduceLeDiff, Bool.false_eq_true, Nat.reduceEqDiff, Nat.le_refl, LIM, Bool.not_true, Bool.not_false, decide_true, decide_false, decide_eq_true_eq, Int.reduceEq, Int.reduceLT, Int.reduceLE, Int.reduceAdd, Int.reduceSub, Int.reduceNe, Int.reduceNeg, Int.cast_ofNat_Int, ne_eq, not_true_eq_false, not_false_eq_true])
  rw [special_eval]
  (simp only [x_seq, x_nx, x_rt, x_lnx, x_lct, x_lbk, x_lrt, x_bk, x_ct, x_nil, x_ret, x_set, x_asg, x_new, x_frz, x_if, x_drop, x_for, x_gN, x_gT, x_gsN, x_gsC, x_var, x_vvar, x_c, x_bin, x_un, x_of, x_tru, x_tand, x_tor, x_tnot, x_tT, x_and, x_or, x_not, x_eif, x_aN, x_aC, x_tup, x_lst, x_llst, x_call, x_eL, x_lseq, x_rng1, x_comp, x_comp2, x_app, x_ext, x_frzE, x_f1, x_f2, x_fn, x_start, x_rrt, x_rnx, all_D, any_D, x_bN, x_bC, x_asB, x_asI, x_truB, x_truI, x_seqL, x_seqT, x_lenL, x_lenT, x_tupL, x_tupT, x_int, x_wN, x_wC, x_ixT, x_ixL, x_isi, x_is_int_bool, x_is_int_int, x_is_int_str, x_is_int_tuple, x_is_int_list, x_is_int_dict, x_is_tup_bool, x_is_tup_int, x_is_tup_str, x_is_tup_tuple, x_is_tup_list, x_is_tup_dict, x_is_lst_bool, x_is_lst_int, x_is_lst_str, x_is_lst_tuple, x_is_lst_list, x_is_lst_dict, x_is_bl_bool, x_is_bl_int, x_is_bl_str, x_is_bl_tuple, x_is_bl_list, x_is_bl_dict, x_is_non_bool, x_is_non_int, x_is_non_str, x_is_non_tuple, x_is_non_list, x_is_non_dict, x_is_str_bool, x_is_str_int, x_is_str_str, x_is_str_tuple, x_is_str_list, x_is_str_dict, x_ite, x_itm, x_at0, x_at1, x_at2, x_addI, x_subI, x_pow18, x_mod, x_fdiv, x_sq, x_mul, x_mul', x_addT, x_addL, x_gt, x_ge, x_le, x_lt, eqD_int, neD_int, eqD_bool, neD_bool, getS, setS, List.map_cons, List.map_nil, List.length_cons, List.length_nil, List.cons_append, List.nil_append, List.replicate, Option.bind_some, Option.map_some, Option.bind_none, Option.map_none, if_true, if_false, ite_true, ite_false, reduceIte, Nat.reduceAdd, Nat.reduceSub, Nat.reduceLeDiff, Bool.false_eq_true, Nat.reduceEqDiff, Nat.le_refl, LIM, Bool.not_true, Bool.not_false, decide_true, decide_false, decide_eq_true_eq, Int.reduceEq, Int.reduceLT, Int.reduceLE, Int.reduceAdd, Int.reduceSub, Int.reduceNe, Int.reduceNeg, Int.cast_ofNat_Int, ne_eq, not_true_eq_false, not_false_eq_true])
  obtain ⟨g1, g2⟩ := specials_n (nth ds (Int.toNat 2))
  generalize specials.getD (nth ds (Int.toNat 2) % 10).toNat ⟨0, [], [], []⟩ = sp at *
  rw [show ixD (encW sp) (.int 0) = some (.int sp.n) by unfold encW; (simp only [x_seq, x_nx, x_rt, x_lnx, x_lct, x_lbk, x_lrt, x_bk, x_ct, x_nil, x_ret, x_set, x_asg, x_new, x_frz, x_if, x_drop, x_for, x_gN, x_gT, x_gsN, x_gsC, x_var, x_vvar, x_c, x_bin, x_un, x_of, x_tru, x_tand, x_tor, x_tnot, x_tT, x_and, x_or, x_not, x_eif, x_aN, x_aC, x_tup, x_lst, x_llst, x_call, x_eL, x_lseq, x_rng1, x_comp, x_comp2, x_app, x_ext, x_frzE, x_f1, x_f2, x_fn, x_start, x_rrt, x_rnx, all_D, any_D, x_bN, x_bC, x_asB, x_asI, x_truB, x_truI, x_seqL, x_seqT, x_lenL, x_lenT, x_tupL, x_tupT, x_int, x_wN, x_wC, x_ixT, x_ixL, x_isi, x_is_int_bool, x_is_int_int, x_is_int_str, x_is_int_tuple, x_is_int_list, x_is_int_dict, x_is_tup_bool, x_is_tup_int, x_is_tup_str, x_is_tup_tuple, x_is_tup_list, x_is_tup_dict, x_is_lst_bool, x_is_lst_int, x_is_lst_str, x_is_lst_tuple, x_is_lst_list, x_is_lst_dict, x_is_bl_bool, x_is_bl_int, x_is_bl_str, x_is_bl_tuple, x_is_bl_list, x_is_bl_dict, x_is_non_bool, x_is_non_int, x_is_non_str, x_is_non_tuple, x_is_non_list, x_is_non_dict, x_is_str_bool, x_is_str_int, x_is_str_str, x_is_str_tuple, x_is_str_list, x_is_str_dict, x_ite, x_itm, x_at0, x_at1, x_at2, x_addI, x_subI, x_pow18, x_mod, x_fdiv, x_sq, x_mul, x_mul', x_addT, x_addL, x_gt, x_ge, x_le, x_lt, eqD_int, neD_int, eqD_bool, neD_bool, getS, setS, List.map_cons, List.map_nil, List.length_cons, List.length_nil, List.cons_append, List.nil_append, List.replicate, Option.bind_some, Option.map_some, Option.bind_none, Option.map_none, if_true, if_false, ite_true, ite_false, reduceIte, Nat.reduceAdd, Nat.reduceSub, Nat.reduceLeDiff, Bool.false_eq_true, Nat.reduceEqDiff, Nat.le_refl, LIM, Bool.not_true, Bool.not_false, decide_true, decide_false, decide_eq_true_eq, Int.reduceEq, Int.reduceLT, Int.reduceLE, Int.reduceAdd, Int.reduceSub, Int.reduceNe, Int.reduceNeg, Int.cast_ofNat_Int, ne_eq, not_true_eq_false, not_false_eq_true])]
  (simp only [x_seq, x_nx, x_rt, x_lnx, x_lct, x_lbk, x_lrt, x_bk, x_ct, x_nil, x_ret, x_set, x_asg, x_new, x_frz, x_if, x_drop, x_for, x_gN, x_gT, x_gsN, x_gsC, x_var, x_vvar, x_c, x_bin, x_un, x_of, x_tru, x_tand, x_tor, x_tnot, x_tT, x_and, x_or, x_not, x_eif, x_aN, x_aC, x_tup, x_lst, x_llst, x_call, x_eL, x_lseq, x_rng1, x_comp, x_comp2, x_app, x_ext, x_frzE, x_f1, x_f2, x_fn, x_start, x_rrt, x_rnx, all_D, any_D, x_bN, x_bC, x_asB, x_asI, x_truB, x_truI, x_seqL, x_seqT, x_lenL, x_lenT, x_tupL, x_tupT, x_int, x_wN, x_wC, x_ixT, x_ixL, x_isi, x_is_int_bool, x_is_int_int, x_is_int_str, x_is_int_tuple, x_is_int_list, x_is_int_dict, x_is_tup_bool, x_is_tup_int, x_is_tup_str, x_is_tup_tuple, x_is_tup_list, x_is_tup_dict, x_is_lst_bool, x_is_lst_int, x_is_lst_str, x_is_lst_tuple, x_is_lst_list, x_is_lst_dict, x_is_bl_bool, x_is_bl_int, x_is_bl_str, x_is_bl_tuple, x_is_bl_list, x_is_bl_dict, x_is_non_bool, x_is_non_int, x_is_non_str, x_is_non_tuple, x_is_non_list, x_is_non_dict, x_is_str_bool, x_is_str_int, x_is_str_str, x_is_str_tuple, x_is_str_list, x_is_str_dict, x_ite, x_itm, x_at0, x_at1, x_at2, x_addI, x_subI, x_pow18, x_mod, x_fdiv, x_sq, x_mul, x_mul', x_addT, x_addL, x_gt, x_ge, x_le, x_lt, eqD_int, neD_int, eqD_bool, neD_bool, getS, setS, List.map_cons, List.map_nil, List.length_cons, List.length_nil, List.cons_append, List.nil_append, List.replicate, Option.bind_some, Option.map_some, Option.bind_none, Option.map_none, if_true, if_false, ite_true, ite_false, reduceIte, Nat.reduceAdd, Nat.reduceSub, Nat.reduceLeDiff, Bool.false_eq_true, Nat.reduceEqDiff, Nat.le_refl, LIM, Bool.not_true, Bool.not_false, decide_true, decide_false, decide_eq_true_eq, Int.reduceEq, Int.reduceLT, Int.reduceLE, Int.reduceAdd, Int.reduceSub, Int.reduceNe, Int.reduceNeg, Int.cast_ofNat_Int, ne_eq, not_true_eq_false, not_false_eq_true])
  split
  · split
    · exact ⟨sp, rfl, g1, by omega⟩
    · exact rest
  · exact rest
end
/-! ### the law -/
theorem lead0 (w : Wd) : Lot w [] = [Tup.mk []] := by
  refine sorted_one (lot_pw _) (List.pairwise_singleton _ _) (lot_nodup _) (List.nodup_cons.mpr ⟨by simp, List.nodup_nil⟩) fun x => ?_
  obtain ⟨k⟩ := x
  have := mem_Lot w [] k
  rw [this, List.mem_singleton]
  constructor
  · rintro ⟨σ, _, e⟩
    cases e; rfl
  · intro e
    cases e
    exact ⟨_, turn_id w, rfl⟩
theorem orb0 (w : Wd) : orb w 0 = [Tup.mk [Tup.mk []]] := by
  unfold orb
  show ([[]].filter (lead w)).map _ = _
  rw [List.filter_cons, if_pos (by unfold lead; rw [lead0]; exact decide_eq_true rfl)]
  show [Tup.mk (Lot w [])] = _
  rw [lead0]
theorem Lot_le (w : Wd) (it : List Int) (h1 : 1 ≤ w.n) (h5 : w.n ≤ 5) : (Lot w it).length ≤ 3125 ∧ (ks w it).length ≤ 3125 := by
  have hb : w.n ^ w.n ≤ 3125 := Nat.le_trans (Nat.pow_le_pow_right h1 h5) (Nat.le_trans (Nat.pow_le_pow_left h5 5) (by decide))
  have h2 : (ks w it).length ≤ 3125 := by unfold ks; rw [List.length_map]; exact Nat.le_trans (bfs_le w w w.n) hb
  refine ⟨?_, h2⟩
  have h3 := dd_le (srt ((ks w it).map Tup.mk))
  rw [(srt_perm _).length_eq, List.length_map] at h3
  exact Nat.le_trans h3 h2
theorem orb_flat (w : Wd) (s : Nat) (h1 : 1 ≤ w.n) (h5 : w.n ≤ 5) (hs : s ≤ 2) : flatD 7 (.list ((orb w s).map toD)) := by
  have h3 : w.n ^ s ≤ 5 ^ 2 := Nat.le_trans (Nat.pow_le_pow_right h1 hs) (Nat.pow_le_pow_left h5 2)
  have h25 : (5 : Nat) ^ 2 = 25 := by decide
  refine ⟨?_, fun d hd => ?_⟩
  · unfold orb
    rw [List.length_map, List.length_map]
    have := List.length_filter_le (lead w) (tups w.n s)
    have := tups_le w.n s
    omega
  · obtain ⟨x, hx, rfl⟩ := List.mem_map.mp hd
    obtain ⟨it, hit, rfl⟩ := List.mem_map.mp hx
    have hit' := ((mem_tups _ _ _).mp (List.mem_filter.mp hit).1).1
    refine ⟨?_, fun d hd => ?_⟩
    · rw [List.length_map]
      have := (Lot_le w it h1 h5).1
      show (Lot w it).length ≤ _
      omega
    · obtain ⟨⟨k⟩, hk, rfl⟩ := List.mem_map.mp hd
      obtain ⟨σ, hσ, rfl⟩ := (mem_Lot w it k).mp hk
      refine ⟨?_, fun d hd => ?_⟩
      · rw [List.length_map]
        show (app σ it).length ≤ _
        unfold app
        rw [List.length_map]
        omega
      · obtain ⟨i, _, rfl⟩ := List.mem_map.mp hd
        trivial
theorem law_true (ns : List Int) (hns : ns.length ≤ 63) : m_law [.list (ns.map PyData.int)] = some (.bool true) := by
  obtain ⟨ds, hl, hr, e1⟩ := draws_eval (ns.headD 0) 90 (by decide)
  obtain ⟨w, e2, h1, h5⟩ := world_eval (ds := ds) 5 (by decide) (by decide) hl
  obtain ⟨s, hs, es⟩ : ∃ s : Nat, s ≤ 2 ∧ nth ds (Int.toNat 70) % 3 = (s : Int) := by
    have h1 := Int.emod_nonneg (nth ds (Int.toNat 70)) (show (3 : Int) ≠ 0 by decide)
    have h2 := Int.emod_lt_of_pos (nth ds (Int.toNat 70)) (show (0 : Int) < 3 by decide)
    exact ⟨(nth ds (Int.toNat 70) % 3).toNat, by omega, by omega⟩
  have hb : w.n ^ w.n ≤ 16777216 := Nat.le_trans (Nat.pow_le_pow_right h1 h5) (Nat.le_trans (Nat.pow_le_pow_left h5 5) (by decide))
  have h3 : w.n ^ s ≤ 5 ^ 2 := Nat.le_trans (Nat.pow_le_pow_right h1 hs) (Nat.pow_le_pow_left h5 2)
  have h25 : (5 : Nat) ^ 2 = 25 := by decide
  unfold m_law S_law
  (simp only [x_seq, x_nx, x_rt, x_lnx, x_lct, x_lbk, x_lrt, x_bk, x_ct, x_nil, x_ret, x_set, x_asg, x_new, x_frz, x_if, x_drop, x_for, x_gN, x_gT, x_gsN, x_gsC, x_var, x_vvar, x_c, x_bin, x_un, x_of, x_tru, x_tand, x_tor, x_tnot, x_tT, x_and, x_or, x_not, x_eif, x_aN, x_aC, x_tup, x_lst, x_llst, x_call, x_eL, x_lseq, x_rng1, x_comp, x_comp2, x_app, x_ext, x_frzE, x_f1, x_f2, x_fn, x_start, x_rrt, x_rnx, all_D, any_D, x_bN, x_bC, x_asB, x_asI, x_truB, x_truI, x_seqL, x_seqT, x_lenL, x_lenT, x_tupL, x_tupT, x_int, x_wN, x_wC, x_ixT, x_ixL, x_isi, x_is_int_bool, x_is_int_int, x_is_int_str, x_is_int_tuple, x_is_int_list, x_is_int_dict, x_is_tup_bool, x_is_tup_int, x_is_tup_str, x_is_tup_tuple, x_is_tup_list, x_is_tup_dict, x_is_lst_bool, x_is_lst_int, x_is_lst_str, x_is_lst_tuple, x_is_lst_list, x_is_lst_dict, x_is_bl_bool, x_is_bl_int, x_is_bl_str, x_is_bl_tuple, x_is_bl_list, x_is_bl_dict, x_is_non_bool, x_is_non_int, x_is_non_str, x_is_non_tuple, x_is_non_list, x_is_non_dict, x_is_str_bool, x_is_str_int, x_is_str_str, x_is_str_tuple, x_is_str_list, x_is_str_dict, x_ite, x_itm, x_at0, x_at1, x_at2, x_addI, x_subI, x_pow18, x_mod, x_fdiv, x_sq, x_mul, x_mul', x_addT, x_addL, x_gt, x_ge, x_le, x_lt, eqD_int, neD_int, eqD_bool, neD_bool, getS, setS, List.map_cons, List.map_nil, List.length_cons, List.length_nil, List.cons_append, List.nil_append, List.replicate, Option.bind_some, Option.map_some, Option.bind_none, Option.map_none, if_true, if_false, ite_true, ite_false, reduceIte, Nat.reduceAdd, Nat.reduceSub, Nat.reduceLeDiff, Bool.false_eq_true, Nat.reduceEqDiff, Nat.le_refl, LIM, Bool.not_true, Bool.not_false, decide_true, decide_false, decide_eq_true_eq, Int.reduceEq, Int.reduceLT, Int.reduceLE, Int.reduceAdd, Int.reduceSub, Int.reduceNe, Int.reduceNeg, Int.cast_ofNat_Int, ne_eq, not_true_eq_false, not_false_eq_true])
  rw [cell_eval]
  (simp only [x_seq, x_nx, x_rt, x_lnx, x_lct, x_lbk, x_lrt, x_bk, x_ct, x_nil, x_ret, x_set, x_asg, x_new, x_frz, x_if, x_drop, x_for, x_gN, x_gT, x_gsN, x_gsC, x_var, x_vvar, x_c, x_bin, x_un, x_of, x_tru, x_tand, x_tor, x_tnot, x_tT, x_and, x_or, x_not, x_eif, x_aN, x_aC, x_tup, x_lst, x_llst, x_call, x_eL, x_lseq, x_rng1, x_comp, x_comp2, x_app, x_ext, x_frzE, x_f1, x_f2, x_fn, x_start, x_rrt, x_rnx, all_D, any_D, x_bN, x_bC, x_asB, x_asI, x_truB, x_truI, x_seqL, x_seqT, x_lenL, x_lenT, x_tupL, x_tupT, x_int, x_wN, x_wC, x_ixT, x_ixL, x_isi, x_is_int_bool, x_is_int_int, x_is_int_str, x_is_int_tuple, x_is_int_list, x_is_int_dict, x_is_tup_bool, x_is_tup_int, x_is_tup_str, x_is_tup_tuple, x_is_tup_list, x_is_tup_dict, x_is_lst_bool, x_is_lst_int, x_is_lst_str, x_is_lst_tuple, x_is_lst_list, x_is_lst_dict, x_is_bl_bool, x_is_bl_int, x_is_bl_str, x_is_bl_tuple, x_is_bl_list, x_is_bl_dict, x_is_non_bool, x_is_non_int, x_is_non_str, x_is_non_tuple, x_is_non_list, x_is_non_dict, x_is_str_bool, x_is_str_int, x_is_str_str, x_is_str_tuple, x_is_str_list, x_is_str_dict, x_ite, x_itm, x_at0, x_at1, x_at2, x_addI, x_subI, x_pow18, x_mod, x_fdiv, x_sq, x_mul, x_mul', x_addT, x_addL, x_gt, x_ge, x_le, x_lt, eqD_int, neD_int, eqD_bool, neD_bool, getS, setS, List.map_cons, List.map_nil, List.length_cons, List.length_nil, List.cons_append, List.nil_append, List.replicate, Option.bind_some, Option.map_some, Option.bind_none, Option.map_none, if_true, if_false, ite_true, ite_false, reduceIte, Nat.reduceAdd, Nat.reduceSub, Nat.reduceLeDiff, Bool.false_eq_true, Nat.reduceEqDiff, Nat.le_refl, LIM, Bool.not_true, Bool.not_false, decide_true, decide_false, decide_eq_true_eq, Int.reduceEq, Int.reduceLT, Int.reduceLE, Int.reduceAdd, Int.reduceSub, Int.reduceNe, Int.reduceNeg, Int.cast_ofNat_Int, ne_eq, not_true_eq_false, not_false_eq_true])
  rw [show m__law_draws [.int (ns.headD 0), .int 90] = _ from e1]
  (simp only [x_seq, x_nx, x_rt, x_lnx, x_lct, x_lbk, x_lrt, x_bk, x_ct, x_nil, x_ret, x_set, x_asg, x_new, x_frz, x_if, x_drop, x_for, x_gN, x_gT, x_gsN, x_gsC, x_var, x_vvar, x_c, x_bin, x_un, x_of, x_tru, x_tand, x_tor, x_tnot, x_tT, x_and, x_or, x_not, x_eif, x_aN, x_aC, x_tup, x_lst, x_llst, x_call, x_eL, x_lseq, x_rng1, x_comp, x_comp2, x_app, x_ext, x_frzE, x_f1, x_f2, x_fn, x_start, x_rrt, x_rnx, all_D, any_D, x_bN, x_bC, x_asB, x_asI, x_truB, x_truI, x_seqL, x_seqT, x_lenL, x_lenT, x_tupL, x_tupT, x_int, x_wN, x_wC, x_ixT, x_ixL, x_isi, x_is_int_bool, x_is_int_int, x_is_int_str, x_is_int_tuple, x_is_int_list, x_is_int_dict, x_is_tup_bool, x_is_tup_int, x_is_tup_str, x_is_tup_tuple, x_is_tup_list, x_is_tup_dict, x_is_lst_bool, x_is_lst_int, x_is_lst_str, x_is_lst_tuple, x_is_lst_list, x_is_lst_dict, x_is_bl_bool, x_is_bl_int, x_is_bl_str, x_is_bl_tuple, x_is_bl_list, x_is_bl_dict, x_is_non_bool, x_is_non_int, x_is_non_str, x_is_non_tuple, x_is_non_list, x_is_non_dict, x_is_str_bool, x_is_str_int, x_is_str_str, x_is_str_tuple, x_is_str_list, x_is_str_dict, x_ite, x_itm, x_at0, x_at1, x_at2, x_addI, x_subI, x_pow18, x_mod, x_fdiv, x_sq, x_mul, x_mul', x_addT, x_addL, x_gt, x_ge, x_le, x_lt, eqD_int, neD_int, eqD_bool, neD_bool, getS, setS, List.map_cons, List.map_nil, List.length_cons, List.length_nil, List.cons_append, List.nil_append, List.replicate, Option.bind_some, Option.map_some, Option.bind_none, Option.map_none, if_true, if_false, ite_true, ite_false, reduceIte, Nat.reduceAdd, Nat.reduceSub, Nat.reduceLeDiff, Bool.false_eq_true, Nat.reduceEqDiff, Nat.le_refl, LIM, Bool.not_true, Bool.not_false, decide_true, decide_false, decide_eq_true_eq, Int.reduceEq, Int.reduceLT, Int.reduceLE, Int.reduceAdd, Int.reduceSub, Int.reduceNe, Int.reduceNeg, Int.cast_ofNat_Int, ne_eq, not_true_eq_false, not_false_eq_true])
  rw [show m__law_world [.list (ds.map PyData.int), .int 5] = _ from e2]
  (simp only [x_seq, x_nx, x_rt, x_lnx, x_lct, x_lbk, x_lrt, x_bk, x_ct, x_nil, x_ret, x_set, x_asg, x_new, x_frz, x_if, x_drop, x_for, x_gN, x_gT, x_gsN, x_gsC, x_var, x_vvar, x_c, x_bin, x_un, x_of, x_tru, x_tand, x_tor, x_tnot, x_tT, x_and, x_or, x_not, x_eif, x_aN, x_aC, x_tup, x_lst, x_llst, x_call, x_eL, x_lseq, x_rng1, x_comp, x_comp2, x_app, x_ext, x_frzE, x_f1, x_f2, x_fn, x_start, x_rrt, x_rnx, all_D, any_D, x_bN, x_bC, x_asB, x_asI, x_truB, x_truI, x_seqL, x_seqT, x_lenL, x_lenT, x_tupL, x_tupT, x_int, x_wN, x_wC, x_ixT, x_ixL, x_isi, x_is_int_bool, x_is_int_int, x_is_int_str, x_is_int_tuple, x_is_int_list, x_is_int_dict, x_is_tup_bool, x_is_tup_int, x_is_tup_str, x_is_tup_tuple, x_is_tup_list, x_is_tup_dict, x_is_lst_bool, x_is_lst_int, x_is_lst_str, x_is_lst_tuple, x_is_lst_list, x_is_lst_dict, x_is_bl_bool, x_is_bl_int, x_is_bl_str, x_is_bl_tuple, x_is_bl_list, x_is_bl_dict, x_is_non_bool, x_is_non_int, x_is_non_str, x_is_non_tuple, x_is_non_list, x_is_non_dict, x_is_str_bool, x_is_str_int, x_is_str_str, x_is_str_tuple, x_is_str_list, x_is_str_dict, x_ite, x_itm, x_at0, x_at1, x_at2, x_addI, x_subI, x_pow18, x_mod, x_fdiv, x_sq, x_mul, x_mul', x_addT, x_addL, x_gt, x_ge, x_le, x_lt, eqD_int, neD_int, eqD_bool, neD_bool, getS, setS, List.map_cons, List.map_nil, List.length_cons, List.length_nil, List.cons_append, List.nil_append, List.replicate, Option.bind_some, Option.map_some, Option.bind_none, Option.map_none, if_true, if_false, ite_true, ite_false, reduceIte, Nat.reduceAdd, Nat.reduceSub, Nat.reduceLeDiff, Bool.false_eq_true, Nat.reduceEqDiff, Nat.le_refl, LIM, Bool.not_true, Bool.not_false, decide_true, decide_false, decide_eq_true_eq, Int.reduceEq, Int.reduceLT, Int.reduceLE, Int.reduceAdd, Int.reduceSub, Int.reduceNe, Int.reduceNeg, Int.cast_ofNat_Int, ne_eq, not_true_eq_false, not_false_eq_true])
  rw [at_draw hl 70 (by decide) (by decide)]
  (simp only [x_seq, x_nx, x_rt, x_lnx, x_lct, x_lbk, x_lrt, x_bk, x_ct, x_nil, x_ret, x_set, x_asg, x_new, x_frz, x_if, x_drop, x_for, x_gN, x_gT, x_gsN, x_gsC, x_var, x_vvar, x_c, x_bin, x_un, x_of, x_tru, x_tand, x_tor, x_tnot, x_tT, x_and, x_or, x_not, x_eif, x_aN, x_aC, x_tup, x_lst, x_llst, x_call, x_eL, x_lseq, x_rng1, x_comp, x_comp2, x_app, x_ext, x_frzE, x_f1, x_f2, x_fn, x_start, x_rrt, x_rnx, all_D, any_D, x_bN, x_bC, x_asB, x_asI, x_truB, x_truI, x_seqL, x_seqT, x_lenL, x_lenT, x_tupL, x_tupT, x_int, x_wN, x_wC, x_ixT, x_ixL, x_isi, x_is_int_bool, x_is_int_int, x_is_int_str, x_is_int_tuple, x_is_int_list, x_is_int_dict, x_is_tup_bool, x_is_tup_int, x_is_tup_str, x_is_tup_tuple, x_is_tup_list, x_is_tup_dict, x_is_lst_bool, x_is_lst_int, x_is_lst_str, x_is_lst_tuple, x_is_lst_list, x_is_lst_dict, x_is_bl_bool, x_is_bl_int, x_is_bl_str, x_is_bl_tuple, x_is_bl_list, x_is_bl_dict, x_is_non_bool, x_is_non_int, x_is_non_str, x_is_non_tuple, x_is_non_list, x_is_non_dict, x_is_str_bool, x_is_str_int, x_is_str_str, x_is_str_tuple, x_is_str_list, x_is_str_dict, x_ite, x_itm, x_at0, x_at1, x_at2, x_addI, x_subI, x_pow18, x_mod, x_fdiv, x_sq, x_mul, x_mul', x_addT, x_addL, x_gt, x_ge, x_le, x_lt, eqD_int, neD_int, eqD_bool, neD_bool, getS, setS, List.map_cons, List.map_nil, List.length_cons, List.length_nil, List.cons_append, List.nil_append, List.replicate, Option.bind_some, Option.map_some, Option.bind_none, Option.map_none, if_true, if_false, ite_true, ite_false, reduceIte, Nat.reduceAdd, Nat.reduceSub, Nat.reduceLeDiff, Bool.false_eq_true, Nat.reduceEqDiff, Nat.le_refl, LIM, Bool.not_true, Bool.not_false, decide_true, decide_false, decide_eq_true_eq, Int.reduceEq, Int.reduceLT, Int.reduceLE, Int.reduceAdd, Int.reduceSub, Int.reduceNe, Int.reduceNeg, Int.cast_ofNat_Int, ne_eq, not_true_eq_false, not_false_eq_true])
  rw [es, ways_eval w w (by omega) h1 (by omega) hb]
  (simp only [x_seq, x_nx, x_rt, x_lnx, x_lct, x_lbk, x_lrt, x_bk, x_ct, x_nil, x_ret, x_set, x_asg, x_new, x_frz, x_if, x_drop, x_for, x_gN, x_gT, x_gsN, x_gsC, x_var, x_vvar, x_c, x_bin, x_un, x_of, x_tru, x_tand, x_tor, x_tnot, x_tT, x_and, x_or, x_not, x_eif, x_aN, x_aC, x_tup, x_lst, x_llst, x_call, x_eL, x_lseq, x_rng1, x_comp, x_comp2, x_app, x_ext, x_frzE, x_f1, x_f2, x_fn, x_start, x_rrt, x_rnx, all_D, any_D, x_bN, x_bC, x_asB, x_asI, x_truB, x_truI, x_seqL, x_seqT, x_lenL, x_lenT, x_tupL, x_tupT, x_int, x_wN, x_wC, x_ixT, x_ixL, x_isi, x_is_int_bool, x_is_int_int, x_is_int_str, x_is_int_tuple, x_is_int_list, x_is_int_dict, x_is_tup_bool, x_is_tup_int, x_is_tup_str, x_is_tup_tuple, x_is_tup_list, x_is_tup_dict, x_is_lst_bool, x_is_lst_int, x_is_lst_str, x_is_lst_tuple, x_is_lst_list, x_is_lst_dict, x_is_bl_bool, x_is_bl_int, x_is_bl_str, x_is_bl_tuple, x_is_bl_list, x_is_bl_dict, x_is_non_bool, x_is_non_int, x_is_non_str, x_is_non_tuple, x_is_non_list, x_is_non_dict, x_is_str_bool, x_is_str_int, x_is_str_str, x_is_str_tuple, x_is_str_list, x_is_str_dict, x_ite, x_itm, x_at0, x_at1, x_at2, x_addI, x_subI, x_pow18, x_mod, x_fdiv, x_sq, x_mul, x_mul', x_addT, x_addL, x_gt, x_ge, x_le, x_lt, eqD_int, neD_int, eqD_bool, neD_bool, getS, setS, List.map_cons, List.map_nil, List.length_cons, List.length_nil, List.cons_append, List.nil_append, List.replicate, Option.bind_some, Option.map_some, Option.bind_none, Option.map_none, if_true, if_false, ite_true, ite_false, reduceIte, Nat.reduceAdd, Nat.reduceSub, Nat.reduceLeDiff, Bool.false_eq_true, Nat.reduceEqDiff, Nat.le_refl, LIM, Bool.not_true, Bool.not_false, decide_true, decide_false, decide_eq_true_eq, Int.reduceEq, Int.reduceLT, Int.reduceLE, Int.reduceAdd, Int.reduceSub, Int.reduceNe, Int.reduceNeg, Int.cast_ofNat_Int, ne_eq, not_true_eq_false, not_false_eq_true])
  rw [show ixD (encW w) (.int 0) = some (.int w.n) by unfold encW; (simp only [x_seq, x_nx, x_rt, x_lnx, x_lct, x_lbk, x_lrt, x_bk, x_ct, x_nil, x_ret, x_set, x_asg, x_new, x_frz, x_if, x_drop, x_for, x_gN, x_gT, x_gsN, x_gsC, x_var, x_vvar, x_c, x_bin, x_un, x_of, x_tru, x_tand, x_tor, x_tnot, x_tT, x_and, x_or, x_not, x_eif, x_aN, x_aC, x_tup, x_lst, x_llst, x_call, x_eL, x_lseq, x_rng1, x_comp, x_comp2, x_app, x_ext, x_frzE, x_f1, x_f2, x_fn, x_start, x_rrt, x_rnx, all_D, any_D, x_bN, x_bC, x_asB, x_asI, x_truB, x_truI, x_seqL, x_seqT, x_lenL, x_lenT, x_tupL, x_tupT, x_int, x_wN, x_wC, x_ixT, x_ixL, x_isi, x_is_int_bool, x_is_int_int, x_is_int_str, x_is_int_tuple, x_is_int_list, x_is_int_dict, x_is_tup_bool, x_is_tup_int, x_is_tup_str, x_is_tup_tuple, x_is_tup_list, x_is_tup_dict, x_is_lst_bool, x_is_lst_int, x_is_lst_str, x_is_lst_tuple, x_is_lst_list, x_is_lst_dict, x_is_bl_bool, x_is_bl_int, x_is_bl_str, x_is_bl_tuple, x_is_bl_list, x_is_bl_dict, x_is_non_bool, x_is_non_int, x_is_non_str, x_is_non_tuple, x_is_non_list, x_is_non_dict, x_is_str_bool, x_is_str_int, x_is_str_str, x_is_str_tuple, x_is_str_list, x_is_str_dict, x_ite, x_itm, x_at0, x_at1, x_at2, x_addI, x_subI, x_pow18, x_mod, x_fdiv, x_sq, x_mul, x_mul', x_addT, x_addL, x_gt, x_ge, x_le, x_lt, eqD_int, neD_int, eqD_bool, neD_bool, getS, setS, List.map_cons, List.map_nil, List.length_cons, List.length_nil, List.cons_append, List.nil_append, List.replicate, Option.bind_some, Option.map_some, Option.bind_none, Option.map_none, if_true, if_false, ite_true, ite_false, reduceIte, Nat.reduceAdd, Nat.reduceSub, Nat.reduceLeDiff, Bool.false_eq_true, Nat.reduceEqDiff, Nat.le_refl, LIM, Bool.not_true, Bool.not_false, decide_true, decide_false, decide_eq_true_eq, Int.reduceEq, Int.reduceLT, Int.reduceLE, Int.reduceAdd, Int.reduceSub, Int.reduceNe, Int.reduceNeg, Int.cast_ofNat_Int, ne_eq, not_true_eq_false, not_false_eq_true])]
  (simp only [x_seq, x_nx, x_rt, x_lnx, x_lct, x_lbk, x_lrt, x_bk, x_ct, x_nil, x_ret, x_set, x_asg, x_new, x_frz, x_if, x_drop, x_for, x_gN, x_gT, x_gsN, x_gsC, x_var, x_vvar, x_c, x_bin, x_un, x_of, x_tru, x_tand, x_tor, x_tnot, x_tT, x_and, x_or, x_not, x_eif, x_aN, x_aC, x_tup, x_lst, x_llst, x_call, x_eL, x_lseq, x_rng1, x_comp, x_comp2, x_app, x_ext, x_frzE, x_f1, x_f2, x_fn, x_start, x_rrt, x_rnx, all_D, any_D, x_bN, x_bC, x_asB, x_asI, x_truB, x_truI, x_seqL, x_seqT, x_lenL, x_lenT, x_tupL, x_tupT, x_int, x_wN, x_wC, x_ixT, x_ixL, x_isi, x_is_int_bool, x_is_int_int, x_is_int_str, x_is_int_tuple, x_is_int_list, x_is_int_dict, x_is_tup_bool, x_is_tup_int, x_is_tup_str, x_is_tup_tuple, x_is_tup_list, x_is_tup_dict, x_is_lst_bool, x_is_lst_int, x_is_lst_str, x_is_lst_tuple, x_is_lst_list, x_is_lst_dict, x_is_bl_bool, x_is_bl_int, x_is_bl_str, x_is_bl_tuple, x_is_bl_list, x_is_bl_dict, x_is_non_bool, x_is_non_int, x_is_non_str, x_is_non_tuple, x_is_non_list, x_is_non_dict, x_is_str_bool, x_is_str_int, x_is_str_str, x_is_str_tuple, x_is_str_list, x_is_str_dict, x_ite, x_itm, x_at0, x_at1, x_at2, x_addI, x_subI, x_pow18, x_mod, x_fdiv, x_sq, x_mul, x_mul', x_addT, x_addL, x_gt, x_ge, x_le, x_lt, eqD_int, neD_int, eqD_bool, neD_bool, getS, setS, List.map_cons, List.map_nil, List.length_cons, List.length_nil, List.cons_append, List.nil_append, List.replicate, Option.bind_some, Option.map_some, Option.bind_none, Option.map_none, if_true, if_false, ite_true, ite_false, reduceIte, Nat.reduceAdd, Nat.reduceSub, Nat.reduceLeDiff, Bool.false_eq_true, Nat.reduceEqDiff, Nat.le_refl, LIM, Bool.not_true, Bool.not_false, decide_true, decide_false, decide_eq_true_eq, Int.reduceEq, Int.reduceLT, Int.reduceLE, Int.reduceAdd, Int.reduceSub, Int.reduceNe, Int.reduceNeg, Int.cast_ofNat_Int, ne_eq, not_true_eq_false, not_false_eq_true])
  rw [ltuples_eval w.n s (by omega) h1 (by omega) (by omega)]
  (simp only [x_seq, x_nx, x_rt, x_lnx, x_lct, x_lbk, x_lrt, x_bk, x_ct, x_nil, x_ret, x_set, x_asg, x_new, x_frz, x_if, x_drop, x_for, x_gN, x_gT, x_gsN, x_gsC, x_var, x_vvar, x_c, x_bin, x_un, x_of, x_tru, x_tand, x_tor, x_tnot, x_tT, x_and, x_or, x_not, x_eif, x_aN, x_aC, x_tup, x_lst, x_llst, x_call, x_eL, x_lseq, x_rng1, x_comp, x_comp2, x_app, x_ext, x_frzE, x_f1, x_f2, x_fn, x_start, x_rrt, x_rnx, all_D, any_D, x_bN, x_bC, x_asB, x_asI, x_truB, x_truI, x_seqL, x_seqT, x_lenL, x_lenT, x_tupL, x_tupT, x_int, x_wN, x_wC, x_ixT, x_ixL, x_isi, x_is_int_bool, x_is_int_int, x_is_int_str, x_is_int_tuple, x_is_int_list, x_is_int_dict, x_is_tup_bool, x_is_tup_int, x_is_tup_str, x_is_tup_tuple, x_is_tup_list, x_is_tup_dict, x_is_lst_bool, x_is_lst_int, x_is_lst_str, x_is_lst_tuple, x_is_lst_list, x_is_lst_dict, x_is_bl_bool, x_is_bl_int, x_is_bl_str, x_is_bl_tuple, x_is_bl_list, x_is_bl_dict, x_is_non_bool, x_is_non_int, x_is_non_str, x_is_non_tuple, x_is_non_list, x_is_non_dict, x_is_str_bool, x_is_str_int, x_is_str_str, x_is_str_tuple, x_is_str_list, x_is_str_dict, x_ite, x_itm, x_at0, x_at1, x_at2, x_addI, x_subI, x_pow18, x_mod, x_fdiv, x_sq, x_mul, x_mul', x_addT, x_addL, x_gt, x_ge, x_le, x_lt, eqD_int, neD_int, eqD_bool, neD_bool, getS, setS, List.map_cons, List.map_nil, List.length_cons, List.length_nil, List.cons_append, List.nil_append, List.replicate, Option.bind_some, Option.map_some, Option.bind_none, Option.map_none, if_true, if_false, ite_true, ite_false, reduceIte, Nat.reduceAdd, Nat.reduceSub, Nat.reduceLeDiff, Bool.false_eq_true, Nat.reduceEqDiff, Nat.le_refl, LIM, Bool.not_true, Bool.not_false, decide_true, decide_false, decide_eq_true_eq, Int.reduceEq, Int.reduceLT, Int.reduceLE, Int.reduceAdd, Int.reduceSub, Int.reduceNe, Int.reduceNeg, Int.cast_ofNat_Int, ne_eq, not_true_eq_false, not_false_eq_true])
  obtain ⟨ρ', e, t6, t7, t8, t9, rfl⟩ := forD_at (gg := gN 6) (S := b_law_0) encI
    (fun done ρ => ∃ s6 s7 s8 s9, ρ = [.dat (.list (ns.map PyData.int)), .dat (.list (ds.map PyData.int)), .dat (encW w), .dat (.int s), .dat (.list ((bfs w w w.n).map encI)), .own ((dd (done.map fun it => (Tup.mk (Lot w it) : T2))).map toD), s6, s7, s8, s9]) (tups w.n s) [] _ ⟨.un, .un, .un, .un, rfl⟩ (fun d it rest hd ρ ⟨s6, s7, s8, s9, e⟩ => by
      subst e
      rw [List.nil_append] at hd
      have hit : it ∈ tups w.n s := by rw [hd]; exact List.mem_append_right _ List.mem_cons_self
      have hir := ((mem_tups _ _ _).mp hit).2
      have hdl : d.length + 1 ≤ w.n ^ s := by
        have := congrArg List.length hd
        rw [List.length_append, List.length_cons] at this
        have := tups_le w.n s
        omega
      refine ⟨_, rfl, ?_⟩
      unfold b_law_0
      (simp only [x_seq, x_nx, x_rt, x_lnx, x_lct, x_lbk, x_lrt, x_bk, x_ct, x_nil, x_ret, x_set, x_asg, x_new, x_frz, x_if, x_drop, x_for, x_gN, x_gT, x_gsN, x_gsC, x_var, x_vvar, x_c, x_bin, x_un, x_of, x_tru, x_tand, x_tor, x_tnot, x_tT, x_and, x_or, x_not, x_eif, x_aN, x_aC, x_tup, x_lst, x_llst, x_call, x_eL, x_lseq, x_rng1, x_comp, x_comp2, x_app, x_ext, x_frzE, x_f1, x_f2, x_fn, x_start, x_rrt, x_rnx, all_D, any_D, x_bN, x_bC, x_asB, x_asI, x_truB, x_truI, x_seqL, x_seqT, x_lenL, x_lenT, x_tupL, x_tupT, x_int, x_wN, x_wC, x_ixT, x_ixL, x_isi, x_is_int_bool, x_is_int_int, x_is_int_str, x_is_int_tuple, x_is_int_list, x_is_int_dict, x_is_tup_bool, x_is_tup_int, x_is_tup_str, x_is_tup_tuple, x_is_tup_list, x_is_tup_dict, x_is_lst_bool, x_is_lst_int, x_is_lst_str, x_is_lst_tuple, x_is_lst_list, x_is_lst_dict, x_is_bl_bool, x_is_bl_int, x_is_bl_str, x_is_bl_tuple, x_is_bl_list, x_is_bl_dict, x_is_non_bool, x_is_non_int, x_is_non_str, x_is_non_tuple, x_is_non_list, x_is_non_dict, x_is_str_bool, x_is_str_int, x_is_str_str, x_is_str_tuple, x_is_str_list, x_is_str_dict, x_ite, x_itm, x_at0, x_at1, x_at2, x_addI, x_subI, x_pow18, x_mod, x_fdiv, x_sq, x_mul, x_mul', x_addT, x_addL, x_gt, x_ge, x_le, x_lt, eqD_int, neD_int, eqD_bool, neD_bool, getS, setS, List.map_cons, List.map_nil, List.length_cons, List.length_nil, List.cons_append, List.nil_append, List.replicate, Option.bind_some, Option.map_some, Option.bind_none, Option.map_none, if_true, if_false, ite_true, ite_false, reduceIte, Nat.reduceAdd, Nat.reduceSub, Nat.reduceLeDiff, Bool.false_eq_true, Nat.reduceEqDiff, Nat.le_refl, LIM, Bool.not_true, Bool.not_false, decide_true, decide_false, decide_eq_true_eq, Int.reduceEq, Int.reduceLT, Int.reduceLE, Int.reduceAdd, Int.reduceSub, Int.reduceNe, Int.reduceNeg, Int.cast_ofNat_Int, ne_eq, not_true_eq_false, not_false_eq_true])
      rw [compD_all encI (fun nm => encI (app nm it)) (bfs w w w.n) fun nm hnm => ⟨_, rfl, by
        have ht := (turn_iff w nm).mp hnm
        unfold encI
        (simp only [x_seq, x_nx, x_rt, x_lnx, x_lct, x_lbk, x_lrt, x_bk, x_ct, x_nil, x_ret, x_set, x_asg, x_new, x_frz, x_if, x_drop, x_for, x_gN, x_gT, x_gsN, x_gsC, x_var, x_vvar, x_c, x_bin, x_un, x_of, x_tru, x_tand, x_tor, x_tnot, x_tT, x_and, x_or, x_not, x_eif, x_aN, x_aC, x_tup, x_lst, x_llst, x_call, x_eL, x_lseq, x_rng1, x_comp, x_comp2, x_app, x_ext, x_frzE, x_f1, x_f2, x_fn, x_start, x_rrt, x_rnx, all_D, any_D, x_bN, x_bC, x_asB, x_asI, x_truB, x_truI, x_seqL, x_seqT, x_lenL, x_lenT, x_tupL, x_tupT, x_int, x_wN, x_wC, x_ixT, x_ixL, x_isi, x_is_int_bool, x_is_int_int, x_is_int_str, x_is_int_tuple, x_is_int_list, x_is_int_dict, x_is_tup_bool, x_is_tup_int, x_is_tup_str, x_is_tup_tuple, x_is_tup_list, x_is_tup_dict, x_is_lst_bool, x_is_lst_int, x_is_lst_str, x_is_lst_tuple, x_is_lst_list, x_is_lst_dict, x_is_bl_bool, x_is_bl_int, x_is_bl_str, x_is_bl_tuple, x_is_bl_list, x_is_bl_dict, x_is_non_bool, x_is_non_int, x_is_non_str, x_is_non_tuple, x_is_non_list, x_is_non_dict, x_is_str_bool, x_is_str_int, x_is_str_str, x_is_str_tuple, x_is_str_list, x_is_str_dict, x_ite, x_itm, x_at0, x_at1, x_at2, x_addI, x_subI, x_pow18, x_mod, x_fdiv, x_sq, x_mul, x_mul', x_addT, x_addL, x_gt, x_ge, x_le, x_lt, eqD_int, neD_int, eqD_bool, neD_bool, getS, setS, List.map_cons, List.map_nil, List.length_cons, List.length_nil, List.cons_append, List.nil_append, List.replicate, Option.bind_some, Option.map_some, Option.bind_none, Option.map_none, if_true, if_false, ite_true, ite_false, reduceIte, Nat.reduceAdd, Nat.reduceSub, Nat.reduceLeDiff, Bool.false_eq_true, Nat.reduceEqDiff, Nat.le_refl, LIM, Bool.not_true, Bool.not_false, decide_true, decide_false, decide_eq_true_eq, Int.reduceEq, Int.reduceLT, Int.reduceLE, Int.reduceAdd, Int.reduceSub, Int.reduceNe, Int.reduceNeg, Int.cast_ofNat_Int, ne_eq, not_true_eq_false, not_false_eq_true])
        rw [compD_all PyData.int (fun i => PyData.int (nth nm i.toNat)) it fun x hx => ⟨_, rfl, by
          (simp only [x_seq, x_nx, x_rt, x_lnx, x_lct, x_lbk, x_lrt, x_bk, x_ct, x_nil, x_ret, x_set, x_asg, x_new, x_frz, x_if, x_drop, x_for, x_gN, x_gT, x_gsN, x_gsC, x_var, x_vvar, x_c, x_bin, x_un, x_of, x_tru, x_tand, x_tor, x_tnot, x_tT, x_and, x_or, x_not, x_eif, x_aN, x_aC, x_tup, x_lst, x_llst, x_call, x_eL, x_lseq, x_rng1, x_comp, x_comp2, x_app, x_ext, x_frzE, x_f1, x_f2, x_fn, x_start, x_rrt, x_rnx, all_D, any_D, x_bN, x_bC, x_asB, x_asI, x_truB, x_truI, x_seqL, x_seqT, x_lenL, x_lenT, x_tupL, x_tupT, x_int, x_wN, x_wC, x_ixT, x_ixL, x_isi, x_is_int_bool, x_is_int_int, x_is_int_str, x_is_int_tuple, x_is_int_list, x_is_int_dict, x_is_tup_bool, x_is_tup_int, x_is_tup_str, x_is_tup_tuple, x_is_tup_list, x_is_tup_dict, x_is_lst_bool, x_is_lst_int, x_is_lst_str, x_is_lst_tuple, x_is_lst_list, x_is_lst_dict, x_is_bl_bool, x_is_bl_int, x_is_bl_str, x_is_bl_tuple, x_is_bl_list, x_is_bl_dict, x_is_non_bool, x_is_non_int, x_is_non_str, x_is_non_tuple, x_is_non_list, x_is_non_dict, x_is_str_bool, x_is_str_int, x_is_str_str, x_is_str_tuple, x_is_str_list, x_is_str_dict, x_ite, x_itm, x_at0, x_at1, x_at2, x_addI, x_subI, x_pow18, x_mod, x_fdiv, x_sq, x_mul, x_mul', x_addT, x_addL, x_gt, x_ge, x_le, x_lt, eqD_int, neD_int, eqD_bool, neD_bool, getS, setS, List.map_cons, List.map_nil, List.length_cons, List.length_nil, List.cons_append, List.nil_append, List.replicate, Option.bind_some, Option.map_some, Option.bind_none, Option.map_none, if_true, if_false, ite_true, ite_false, reduceIte, Nat.reduceAdd, Nat.reduceSub, Nat.reduceLeDiff, Bool.false_eq_true, Nat.reduceEqDiff, Nat.le_refl, LIM, Bool.not_true, Bool.not_false, decide_true, decide_false, decide_eq_true_eq, Int.reduceEq, Int.reduceLT, Int.reduceLE, Int.reduceAdd, Int.reduceSub, Int.reduceNe, Int.reduceNeg, Int.cast_ofNat_Int, ne_eq, not_true_eq_false, not_false_eq_true])
          have := hir x hx
          have e := encI_at nm (k := x.toNat) (by rw [ht.len]; omega)
          rw [Int.toNat_of_nonneg this.1] at e
          exact e⟩]
        (simp only [x_seq, x_nx, x_rt, x_lnx, x_lct, x_lbk, x_lrt, x_bk, x_ct, x_nil, x_ret, x_set, x_asg, x_new, x_frz, x_if, x_drop, x_for, x_gN, x_gT, x_gsN, x_gsC, x_var, x_vvar, x_c, x_bin, x_un, x_of, x_tru, x_tand, x_tor, x_tnot, x_tT, x_and, x_or, x_not, x_eif, x_aN, x_aC, x_tup, x_lst, x_llst, x_call, x_eL, x_lseq, x_rng1, x_comp, x_comp2, x_app, x_ext, x_frzE, x_f1, x_f2, x_fn, x_start, x_rrt, x_rnx, all_D, any_D, x_bN, x_bC, x_asB, x_asI, x_truB, x_truI, x_seqL, x_seqT, x_lenL, x_lenT, x_tupL, x_tupT, x_int, x_wN, x_wC, x_ixT, x_ixL, x_isi, x_is_int_bool, x_is_int_int, x_is_int_str, x_is_int_tuple, x_is_int_list, x_is_int_dict, x_is_tup_bool, x_is_tup_int, x_is_tup_str, x_is_tup_tuple, x_is_tup_list, x_is_tup_dict, x_is_lst_bool, x_is_lst_int, x_is_lst_str, x_is_lst_tuple, x_is_lst_list, x_is_lst_dict, x_is_bl_bool, x_is_bl_int, x_is_bl_str, x_is_bl_tuple, x_is_bl_list, x_is_bl_dict, x_is_non_bool, x_is_non_int, x_is_non_str, x_is_non_tuple, x_is_non_list, x_is_non_dict, x_is_str_bool, x_is_str_int, x_is_str_str, x_is_str_tuple, x_is_str_list, x_is_str_dict, x_ite, x_itm, x_at0, x_at1, x_at2, x_addI, x_subI, x_pow18, x_mod, x_fdiv, x_sq, x_mul, x_mul', x_addT, x_addL, x_gt, x_ge, x_le, x_lt, eqD_int, neD_int, eqD_bool, neD_bool, getS, setS, List.map_cons, List.map_nil, List.length_cons, List.length_nil, List.cons_append, List.nil_append, List.replicate, Option.bind_some, Option.map_some, Option.bind_none, Option.map_none, if_true, if_false, ite_true, ite_false, reduceIte, Nat.reduceAdd, Nat.reduceSub, Nat.reduceLeDiff, Bool.false_eq_true, Nat.reduceEqDiff, Nat.le_refl, LIM, Bool.not_true, Bool.not_false, decide_true, decide_false, decide_eq_true_eq, Int.reduceEq, Int.reduceLT, Int.reduceLE, Int.reduceAdd, Int.reduceSub, Int.reduceNe, Int.reduceNeg, Int.cast_ofNat_Int, ne_eq, not_true_eq_false, not_false_eq_true])
        unfold app
        rw [List.map_map] <;> rfl⟩]
      (simp only [x_seq, x_nx, x_rt, x_lnx, x_lct, x_lbk, x_lrt, x_bk, x_ct, x_nil, x_ret, x_set, x_asg, x_new, x_frz, x_if, x_drop, x_for, x_gN, x_gT, x_gsN, x_gsC, x_var, x_vvar, x_c, x_bin, x_un, x_of, x_tru, x_tand, x_tor, x_tnot, x_tT, x_and, x_or, x_not, x_eif, x_aN, x_aC, x_tup, x_lst, x_llst, x_call, x_eL, x_lseq, x_rng1, x_comp, x_comp2, x_app, x_ext, x_frzE, x_f1, x_f2, x_fn, x_start, x_rrt, x_rnx, all_D, any_D, x_bN, x_bC, x_asB, x_asI, x_truB, x_truI, x_seqL, x_seqT, x_lenL, x_lenT, x_tupL, x_tupT, x_int, x_wN, x_wC, x_ixT, x_ixL, x_isi, x_is_int_bool, x_is_int_int, x_is_int_str, x_is_int_tuple, x_is_int_list, x_is_int_dict, x_is_tup_bool, x_is_tup_int, x_is_tup_str, x_is_tup_tuple, x_is_tup_list, x_is_tup_dict, x_is_lst_bool, x_is_lst_int, x_is_lst_str, x_is_lst_tuple, x_is_lst_list, x_is_lst_dict, x_is_bl_bool, x_is_bl_int, x_is_bl_str, x_is_bl_tuple, x_is_bl_list, x_is_bl_dict, x_is_non_bool, x_is_non_int, x_is_non_str, x_is_non_tuple, x_is_non_list, x_is_non_dict, x_is_str_bool, x_is_str_int, x_is_str_str, x_is_str_tuple, x_is_str_list, x_is_str_dict, x_ite, x_itm, x_at0, x_at1, x_at2, x_addI, x_subI, x_pow18, x_mod, x_fdiv, x_sq, x_mul, x_mul', x_addT, x_addL, x_gt, x_ge, x_le, x_lt, eqD_int, neD_int, eqD_bool, neD_bool, getS, setS, List.map_cons, List.map_nil, List.length_cons, List.length_nil, List.cons_append, List.nil_append, List.replicate, Option.bind_some, Option.map_some, Option.bind_none, Option.map_none, if_true, if_false, ite_true, ite_false, reduceIte, Nat.reduceAdd, Nat.reduceSub, Nat.reduceLeDiff, Bool.false_eq_true, Nat.reduceEqDiff, Nat.le_refl, LIM, Bool.not_true, Bool.not_false, decide_true, decide_false, decide_eq_true_eq, Int.reduceEq, Int.reduceLT, Int.reduceLE, Int.reduceAdd, Int.reduceSub, Int.reduceNe, Int.reduceNeg, Int.cast_ofNat_Int, ne_eq, not_true_eq_false, not_false_eq_true])
      have hk := (Lot_le w it h1 h5).2
      rw [show (bfs w w w.n).map (fun nm => encI (app nm it)) = ((ks w it).map Tup.mk).map (toD : T1 → D) by unfold ks; rw [List.map_map, List.map_map]; rfl, unlike_eval (α := T1) _ (.inl fun _ => rfl) (by rw [List.length_map]; omega)]
      (simp only [x_seq, x_nx, x_rt, x_lnx, x_lct, x_lbk, x_lrt, x_bk, x_ct, x_nil, x_ret, x_set, x_asg, x_new, x_frz, x_if, x_drop, x_for, x_gN, x_gT, x_gsN, x_gsC, x_var, x_vvar, x_c, x_bin, x_un, x_of, x_tru, x_tand, x_tor, x_tnot, x_tT, x_and, x_or, x_not, x_eif, x_aN, x_aC, x_tup, x_lst, x_llst, x_call, x_eL, x_lseq, x_rng1, x_comp, x_comp2, x_app, x_ext, x_frzE, x_f1, x_f2, x_fn, x_start, x_rrt, x_rnx, all_D, any_D, x_bN, x_bC, x_asB, x_asI, x_truB, x_truI, x_seqL, x_seqT, x_lenL, x_lenT, x_tupL, x_tupT, x_int, x_wN, x_wC, x_ixT, x_ixL, x_isi, x_is_int_bool, x_is_int_int, x_is_int_str, x_is_int_tuple, x_is_int_list, x_is_int_dict, x_is_tup_bool, x_is_tup_int, x_is_tup_str, x_is_tup_tuple, x_is_tup_list, x_is_tup_dict, x_is_lst_bool, x_is_lst_int, x_is_lst_str, x_is_lst_tuple, x_is_lst_list, x_is_lst_dict, x_is_bl_bool, x_is_bl_int, x_is_bl_str, x_is_bl_tuple, x_is_bl_list, x_is_bl_dict, x_is_non_bool, x_is_non_int, x_is_non_str, x_is_non_tuple, x_is_non_list, x_is_non_dict, x_is_str_bool, x_is_str_int, x_is_str_str, x_is_str_tuple, x_is_str_list, x_is_str_dict, x_ite, x_itm, x_at0, x_at1, x_at2, x_addI, x_subI, x_pow18, x_mod, x_fdiv, x_sq, x_mul, x_mul', x_addT, x_addL, x_gt, x_ge, x_le, x_lt, eqD_int, neD_int, eqD_bool, neD_bool, getS, setS, List.map_cons, List.map_nil, List.length_cons, List.length_nil, List.cons_append, List.nil_append, List.replicate, Option.bind_some, Option.map_some, Option.bind_none, Option.map_none, if_true, if_false, ite_true, ite_false, reduceIte, Nat.reduceAdd, Nat.reduceSub, Nat.reduceLeDiff, Bool.false_eq_true, Nat.reduceEqDiff, Nat.le_refl, LIM, Bool.not_true, Bool.not_false, decide_true, decide_false, decide_eq_true_eq, Int.reduceEq, Int.reduceLT, Int.reduceLE, Int.reduceAdd, Int.reduceSub, Int.reduceNe, Int.reduceNeg, Int.cast_ofNat_Int, ne_eq, not_true_eq_false, not_false_eq_true])
      rw [show notInD (.tuple ((dd (srt ((ks w it).map Tup.mk))).map toD)) (.list ((dd (d.map fun it => (Tup.mk (Lot w it) : T2))).map toD)) = some (.bool (!has (Tup.mk (Lot w it) : T2) (dd (d.map fun it => (Tup.mk (Lot w it) : T2))))) by
        unfold notInD
        rw [show memD (.tuple ((dd (srt ((ks w it).map Tup.mk))).map toD)) (.list ((dd (d.map fun it => (Tup.mk (Lot w it) : T2))).map toD)) = _ from mem_L (α := T2) (Tup.mk (Lot w it)) _]
        rfl]
      (simp only [x_seq, x_nx, x_rt, x_lnx, x_lct, x_lbk, x_lrt, x_bk, x_ct, x_nil, x_ret, x_set, x_asg, x_new, x_frz, x_if, x_drop, x_for, x_gN, x_gT, x_gsN, x_gsC, x_var, x_vvar, x_c, x_bin, x_un, x_of, x_tru, x_tand, x_tor, x_tnot, x_tT, x_and, x_or, x_not, x_eif, x_aN, x_aC, x_tup, x_lst, x_llst, x_call, x_eL, x_lseq, x_rng1, x_comp, x_comp2, x_app, x_ext, x_frzE, x_f1, x_f2, x_fn, x_start, x_rrt, x_rnx, all_D, any_D, x_bN, x_bC, x_asB, x_asI, x_truB, x_truI, x_seqL, x_seqT, x_lenL, x_lenT, x_tupL, x_tupT, x_int, x_wN, x_wC, x_ixT, x_ixL, x_isi, x_is_int_bool, x_is_int_int, x_is_int_str, x_is_int_tuple, x_is_int_list, x_is_int_dict, x_is_tup_bool, x_is_tup_int, x_is_tup_str, x_is_tup_tuple, x_is_tup_list, x_is_tup_dict, x_is_lst_bool, x_is_lst_int, x_is_lst_str, x_is_lst_tuple, x_is_lst_list, x_is_lst_dict, x_is_bl_bool, x_is_bl_int, x_is_bl_str, x_is_bl_tuple, x_is_bl_list, x_is_bl_dict, x_is_non_bool, x_is_non_int, x_is_non_str, x_is_non_tuple, x_is_non_list, x_is_non_dict, x_is_str_bool, x_is_str_int, x_is_str_str, x_is_str_tuple, x_is_str_list, x_is_str_dict, x_ite, x_itm, x_at0, x_at1, x_at2, x_addI, x_subI, x_pow18, x_mod, x_fdiv, x_sq, x_mul, x_mul', x_addT, x_addL, x_gt, x_ge, x_le, x_lt, eqD_int, neD_int, eqD_bool, neD_bool, getS, setS, List.map_cons, List.map_nil, List.length_cons, List.length_nil, List.cons_append, List.nil_append, List.replicate, Option.bind_some, Option.map_some, Option.bind_none, Option.map_none, if_true, if_false, ite_true, ite_false, reduceIte, Nat.reduceAdd, Nat.reduceSub, Nat.reduceLeDiff, Bool.false_eq_true, Nat.reduceEqDiff, Nat.le_refl, LIM, Bool.not_true, Bool.not_false, decide_true, decide_false, decide_eq_true_eq, Int.reduceEq, Int.reduceLT, Int.reduceLE, Int.reduceAdd, Int.reduceSub, Int.reduceNe, Int.reduceNeg, Int.cast_ofNat_Int, ne_eq, not_true_eq_false, not_false_eq_true])
      have h4 := dd_le (d.map fun it => (Tup.mk (Lot w it) : T2))
      rw [List.length_map] at h4
      rw [List.map_append, List.map_cons, List.map_nil, dd_snoc]
      cases hh : has (Tup.mk (Lot w it) : T2) (dd (d.map fun it => (Tup.mk (Lot w it) : T2)))
      · rw [if_pos (by rfl), if_pos (by rw [List.length_map]; omega), if_neg (by simp), List.map_append]
        exact ⟨_, rfl, _, _, _, _, rfl⟩
      · rw [if_neg (by simp), if_pos rfl]
        exact ⟨_, rfl, _, _, _, _, rfl⟩)
  refine (bind2_of e).trans ?_
  (simp only [x_seq, x_nx, x_rt, x_lnx, x_lct, x_lbk, x_lrt, x_bk, x_ct, x_nil, x_ret, x_set, x_asg, x_new, x_frz, x_if, x_drop, x_for, x_gN, x_gT, x_gsN, x_gsC, x_var, x_vvar, x_c, x_bin, x_un, x_of, x_tru, x_tand, x_tor, x_tnot, x_tT, x_and, x_or, x_not, x_eif, x_aN, x_aC, x_tup, x_lst, x_llst, x_call, x_eL, x_lseq, x_rng1, x_comp, x_comp2, x_app, x_ext, x_frzE, x_f1, x_f2, x_fn, x_start, x_rrt, x_rnx, all_D, any_D, x_bN, x_bC, x_asB, x_asI, x_truB, x_truI, x_seqL, x_seqT, x_lenL, x_lenT, x_tupL, x_tupT, x_int, x_wN, x_wC, x_ixT, x_ixL, x_isi, x_is_int_bool, x_is_int_int, x_is_int_str, x_is_int_tuple, x_is_int_list, x_is_int_dict, x_is_tup_bool, x_is_tup_int, x_is_tup_str, x_is_tup_tuple, x_is_tup_list, x_is_tup_dict, x_is_lst_bool, x_is_lst_int, x_is_lst_str, x_is_lst_tuple, x_is_lst_list, x_is_lst_dict, x_is_bl_bool, x_is_bl_int, x_is_bl_str, x_is_bl_tuple, x_is_bl_list, x_is_bl_dict, x_is_non_bool, x_is_non_int, x_is_non_str, x_is_non_tuple, x_is_non_list, x_is_non_dict, x_is_str_bool, x_is_str_int, x_is_str_str, x_is_str_tuple, x_is_str_list, x_is_str_dict, x_ite, x_itm, x_at0, x_at1, x_at2, x_addI, x_subI, x_pow18, x_mod, x_fdiv, x_sq, x_mul, x_mul', x_addT, x_addL, x_gt, x_ge, x_le, x_lt, eqD_int, neD_int, eqD_bool, neD_bool, getS, setS, List.map_cons, List.map_nil, List.length_cons, List.length_nil, List.cons_append, List.nil_append, List.replicate, Option.bind_some, Option.map_some, Option.bind_none, Option.map_none, if_true, if_false, ite_true, ite_false, reduceIte, Nat.reduceAdd, Nat.reduceSub, Nat.reduceLeDiff, Bool.false_eq_true, Nat.reduceEqDiff, Nat.le_refl, LIM, Bool.not_true, Bool.not_false, decide_true, decide_false, decide_eq_true_eq, Int.reduceEq, Int.reduceLT, Int.reduceLE, Int.reduceAdd, Int.reduceSub, Int.reduceNe, Int.reduceNeg, Int.cast_ofNat_Int, ne_eq, not_true_eq_false, not_false_eq_true])
  rw [orbits_eval w s h1 h5 hs, due_orbits h5 hs]
  (simp only [x_seq, x_nx, x_rt, x_lnx, x_lct, x_lbk, x_lrt, x_bk, x_ct, x_nil, x_ret, x_set, x_asg, x_new, x_frz, x_if, x_drop, x_for, x_gN, x_gT, x_gsN, x_gsC, x_var, x_vvar, x_c, x_bin, x_un, x_of, x_tru, x_tand, x_tor, x_tnot, x_tT, x_and, x_or, x_not, x_eif, x_aN, x_aC, x_tup, x_lst, x_llst, x_call, x_eL, x_lseq, x_rng1, x_comp, x_comp2, x_app, x_ext, x_frzE, x_f1, x_f2, x_fn, x_start, x_rrt, x_rnx, all_D, any_D, x_bN, x_bC, x_asB, x_asI, x_truB, x_truI, x_seqL, x_seqT, x_lenL, x_lenT, x_tupL, x_tupT, x_int, x_wN, x_wC, x_ixT, x_ixL, x_isi, x_is_int_bool, x_is_int_int, x_is_int_str, x_is_int_tuple, x_is_int_list, x_is_int_dict, x_is_tup_bool, x_is_tup_int, x_is_tup_str, x_is_tup_tuple, x_is_tup_list, x_is_tup_dict, x_is_lst_bool, x_is_lst_int, x_is_lst_str, x_is_lst_tuple, x_is_lst_list, x_is_lst_dict, x_is_bl_bool, x_is_bl_int, x_is_bl_str, x_is_bl_tuple, x_is_bl_list, x_is_bl_dict, x_is_non_bool, x_is_non_int, x_is_non_str, x_is_non_tuple, x_is_non_list, x_is_non_dict, x_is_str_bool, x_is_str_int, x_is_str_str, x_is_str_tuple, x_is_str_list, x_is_str_dict, x_ite, x_itm, x_at0, x_at1, x_at2, x_addI, x_subI, x_pow18, x_mod, x_fdiv, x_sq, x_mul, x_mul', x_addT, x_addL, x_gt, x_ge, x_le, x_lt, eqD_int, neD_int, eqD_bool, neD_bool, getS, setS, List.map_cons, List.map_nil, List.length_cons, List.length_nil, List.cons_append, List.nil_append, List.replicate, Option.bind_some, Option.map_some, Option.bind_none, Option.map_none, if_true, if_false, ite_true, ite_false, reduceIte, Nat.reduceAdd, Nat.reduceSub, Nat.reduceLeDiff, Bool.false_eq_true, Nat.reduceEqDiff, Nat.le_refl, LIM, Bool.not_true, Bool.not_false, decide_true, decide_false, decide_eq_true_eq, Int.reduceEq, Int.reduceLT, Int.reduceLE, Int.reduceAdd, Int.reduceSub, Int.reduceNe, Int.reduceNeg, Int.cast_ofNat_Int, ne_eq, not_true_eq_false, not_false_eq_true])
  rw [sort_DL (α := T2) _ (.inl fun _ => rfl)]
  (simp only [x_seq, x_nx, x_rt, x_lnx, x_lct, x_lbk, x_lrt, x_bk, x_ct, x_nil, x_ret, x_set, x_asg, x_new, x_frz, x_if, x_drop, x_for, x_gN, x_gT, x_gsN, x_gsC, x_var, x_vvar, x_c, x_bin, x_un, x_of, x_tru, x_tand, x_tor, x_tnot, x_tT, x_and, x_or, x_not, x_eif, x_aN, x_aC, x_tup, x_lst, x_llst, x_call, x_eL, x_lseq, x_rng1, x_comp, x_comp2, x_app, x_ext, x_frzE, x_f1, x_f2, x_fn, x_start, x_rrt, x_rnx, all_D, any_D, x_bN, x_bC, x_asB, x_asI, x_truB, x_truI, x_seqL, x_seqT, x_lenL, x_lenT, x_tupL, x_tupT, x_int, x_wN, x_wC, x_ixT, x_ixL, x_isi, x_is_int_bool, x_is_int_int, x_is_int_str, x_is_int_tuple, x_is_int_list, x_is_int_dict, x_is_tup_bool, x_is_tup_int, x_is_tup_str, x_is_tup_tuple, x_is_tup_list, x_is_tup_dict, x_is_lst_bool, x_is_lst_int, x_is_lst_str, x_is_lst_tuple, x_is_lst_list, x_is_lst_dict, x_is_bl_bool, x_is_bl_int, x_is_bl_str, x_is_bl_tuple, x_is_bl_list, x_is_bl_dict, x_is_non_bool, x_is_non_int, x_is_non_str, x_is_non_tuple, x_is_non_list, x_is_non_dict, x_is_str_bool, x_is_str_int, x_is_str_str, x_is_str_tuple, x_is_str_list, x_is_str_dict, x_ite, x_itm, x_at0, x_at1, x_at2, x_addI, x_subI, x_pow18, x_mod, x_fdiv, x_sq, x_mul, x_mul', x_addT, x_addL, x_gt, x_ge, x_le, x_lt, eqD_int, neD_int, eqD_bool, neD_bool, getS, setS, List.map_cons, List.map_nil, List.length_cons, List.length_nil, List.cons_append, List.nil_append, List.replicate, Option.bind_some, Option.map_some, Option.bind_none, Option.map_none, if_true, if_false, ite_true, ite_false, reduceIte, Nat.reduceAdd, Nat.reduceSub, Nat.reduceLeDiff, Bool.false_eq_true, Nat.reduceEqDiff, Nat.le_refl, LIM, Bool.not_true, Bool.not_false, decide_true, decide_false, decide_eq_true_eq, Int.reduceEq, Int.reduceLT, Int.reduceLE, Int.reduceAdd, Int.reduceSub, Int.reduceNe, Int.reduceNeg, Int.cast_ofNat_Int, ne_eq, not_true_eq_false, not_false_eq_true])
  rw [show srt (((tups w.n s).filter (lead w)).map fun it => (Tup.mk (Lot w it) : T2)) = orb w s from srt_of (orb_sorted h5 hs), equal_self 7 _ (orb_flat w s h1 h5 hs)]
  (simp only [x_seq, x_nx, x_rt, x_lnx, x_lct, x_lbk, x_lrt, x_bk, x_ct, x_nil, x_ret, x_set, x_asg, x_new, x_frz, x_if, x_drop, x_for, x_gN, x_gT, x_gsN, x_gsC, x_var, x_vvar, x_c, x_bin, x_un, x_of, x_tru, x_tand, x_tor, x_tnot, x_tT, x_and, x_or, x_not, x_eif, x_aN, x_aC, x_tup, x_lst, x_llst, x_call, x_eL, x_lseq, x_rng1, x_comp, x_comp2, x_app, x_ext, x_frzE, x_f1, x_f2, x_fn, x_start, x_rrt, x_rnx, all_D, any_D, x_bN, x_bC, x_asB, x_asI, x_truB, x_truI, x_seqL, x_seqT, x_lenL, x_lenT, x_tupL, x_tupT, x_int, x_wN, x_wC, x_ixT, x_ixL, x_isi, x_is_int_bool, x_is_int_int, x_is_int_str, x_is_int_tuple, x_is_int_list, x_is_int_dict, x_is_tup_bool, x_is_tup_int, x_is_tup_str, x_is_tup_tuple, x_is_tup_list, x_is_tup_dict, x_is_lst_bool, x_is_lst_int, x_is_lst_str, x_is_lst_tuple, x_is_lst_list, x_is_lst_dict, x_is_bl_bool, x_is_bl_int, x_is_bl_str, x_is_bl_tuple, x_is_bl_list, x_is_bl_dict, x_is_non_bool, x_is_non_int, x_is_non_str, x_is_non_tuple, x_is_non_list, x_is_non_dict, x_is_str_bool, x_is_str_int, x_is_str_str, x_is_str_tuple, x_is_str_list, x_is_str_dict, x_ite, x_itm, x_at0, x_at1, x_at2, x_addI, x_subI, x_pow18, x_mod, x_fdiv, x_sq, x_mul, x_mul', x_addT, x_addL, x_gt, x_ge, x_le, x_lt, eqD_int, neD_int, eqD_bool, neD_bool, getS, setS, List.map_cons, List.map_nil, List.length_cons, List.length_nil, List.cons_append, List.nil_append, List.replicate, Option.bind_some, Option.map_some, Option.bind_none, Option.map_none, if_true, if_false, ite_true, ite_false, reduceIte, Nat.reduceAdd, Nat.reduceSub, Nat.reduceLeDiff, Bool.false_eq_true, Nat.reduceEqDiff, Nat.le_refl, LIM, Bool.not_true, Bool.not_false, decide_true, decide_false, decide_eq_true_eq, Int.reduceEq, Int.reduceLT, Int.reduceLE, Int.reduceAdd, Int.reduceSub, Int.reduceNe, Int.reduceNeg, Int.cast_ofNat_Int, ne_eq, not_true_eq_false, not_false_eq_true])
  rw [show m_orbits [encW w, .int 0] = _ from orbits_eval w 0 h1 h5 (by decide)]
  (simp only [x_seq, x_nx, x_rt, x_lnx, x_lct, x_lbk, x_lrt, x_bk, x_ct, x_nil, x_ret, x_set, x_asg, x_new, x_frz, x_if, x_drop, x_for, x_gN, x_gT, x_gsN, x_gsC, x_var, x_vvar, x_c, x_bin, x_un, x_of, x_tru, x_tand, x_tor, x_tnot, x_tT, x_and, x_or, x_not, x_eif, x_aN, x_aC, x_tup, x_lst, x_llst, x_call, x_eL, x_lseq, x_rng1, x_comp, x_comp2, x_app, x_ext, x_frzE, x_f1, x_f2, x_fn, x_start, x_rrt, x_rnx, all_D, any_D, x_bN, x_bC, x_asB, x_asI, x_truB, x_truI, x_seqL, x_seqT, x_lenL, x_lenT, x_tupL, x_tupT, x_int, x_wN, x_wC, x_ixT, x_ixL, x_isi, x_is_int_bool, x_is_int_int, x_is_int_str, x_is_int_tuple, x_is_int_list, x_is_int_dict, x_is_tup_bool, x_is_tup_int, x_is_tup_str, x_is_tup_tuple, x_is_tup_list, x_is_tup_dict, x_is_lst_bool, x_is_lst_int, x_is_lst_str, x_is_lst_tuple, x_is_lst_list, x_is_lst_dict, x_is_bl_bool, x_is_bl_int, x_is_bl_str, x_is_bl_tuple, x_is_bl_list, x_is_bl_dict, x_is_non_bool, x_is_non_int, x_is_non_str, x_is_non_tuple, x_is_non_list, x_is_non_dict, x_is_str_bool, x_is_str_int, x_is_str_str, x_is_str_tuple, x_is_str_list, x_is_str_dict, x_ite, x_itm, x_at0, x_at1, x_at2, x_addI, x_subI, x_pow18, x_mod, x_fdiv, x_sq, x_mul, x_mul', x_addT, x_addL, x_gt, x_ge, x_le, x_lt, eqD_int, neD_int, eqD_bool, neD_bool, getS, setS, List.map_cons, List.map_nil, List.length_cons, List.length_nil, List.cons_append, List.nil_append, List.replicate, Option.bind_some, Option.map_some, Option.bind_none, Option.map_none, if_true, if_false, ite_true, ite_false, reduceIte, Nat.reduceAdd, Nat.reduceSub, Nat.reduceLeDiff, Bool.false_eq_true, Nat.reduceEqDiff, Nat.le_refl, LIM, Bool.not_true, Bool.not_false, decide_true, decide_false, decide_eq_true_eq, Int.reduceEq, Int.reduceLT, Int.reduceLE, Int.reduceAdd, Int.reduceSub, Int.reduceNe, Int.reduceNeg, Int.cast_ofNat_Int, ne_eq, not_true_eq_false, not_false_eq_true])
  rw [orb0]
  rw [show m__law_equal 8 [PyData.list (([Tup.mk [Tup.mk []]] : List T2).map toD), PyData.list [PyData.tuple [PyData.tuple []]]] = _ from equal_self 7 (PyData.list [PyData.tuple [PyData.tuple []]]) (by rw [← show PyData.list ((orb w 0).map toD) = PyData.list [PyData.tuple [PyData.tuple []]] by rw [orb0]; rfl]; exact orb_flat w 0 h1 h5 (by decide))]
  (simp only [x_seq, x_nx, x_rt, x_lnx, x_lct, x_lbk, x_lrt, x_bk, x_ct, x_nil, x_ret, x_set, x_asg, x_new, x_frz, x_if, x_drop, x_for, x_gN, x_gT, x_gsN, x_gsC, x_var, x_vvar, x_c, x_bin, x_un, x_of, x_tru, x_tand, x_tor, x_tnot, x_tT, x_and, x_or, x_not, x_eif, x_aN, x_aC, x_tup, x_lst, x_llst, x_call, x_eL, x_lseq, x_rng1, x_comp, x_comp2, x_app, x_ext, x_frzE, x_f1, x_f2, x_fn, x_start, x_rrt, x_rnx, all_D, any_D, x_bN, x_bC, x_asB, x_asI, x_truB, x_truI, x_seqL, x_seqT, x_lenL, x_lenT, x_tupL, x_tupT, x_int, x_wN, x_wC, x_ixT, x_ixL, x_isi, x_is_int_bool, x_is_int_int, x_is_int_str, x_is_int_tuple, x_is_int_list, x_is_int_dict, x_is_tup_bool, x_is_tup_int, x_is_tup_str, x_is_tup_tuple, x_is_tup_list, x_is_tup_dict, x_is_lst_bool, x_is_lst_int, x_is_lst_str, x_is_lst_tuple, x_is_lst_list, x_is_lst_dict, x_is_bl_bool, x_is_bl_int, x_is_bl_str, x_is_bl_tuple, x_is_bl_list, x_is_bl_dict, x_is_non_bool, x_is_non_int, x_is_non_str, x_is_non_tuple, x_is_non_list, x_is_non_dict, x_is_str_bool, x_is_str_int, x_is_str_str, x_is_str_tuple, x_is_str_list, x_is_str_dict, x_ite, x_itm, x_at0, x_at1, x_at2, x_addI, x_subI, x_pow18, x_mod, x_fdiv, x_sq, x_mul, x_mul', x_addT, x_addL, x_gt, x_ge, x_le, x_lt, eqD_int, neD_int, eqD_bool, neD_bool, getS, setS, List.map_cons, List.map_nil, List.length_cons, List.length_nil, List.cons_append, List.nil_append, List.replicate, Option.bind_some, Option.map_some, Option.bind_none, Option.map_none, if_true, if_false, ite_true, ite_false, reduceIte, Nat.reduceAdd, Nat.reduceSub, Nat.reduceLeDiff, Bool.false_eq_true, Nat.reduceEqDiff, Nat.le_refl, LIM, Bool.not_true, Bool.not_false, decide_true, decide_false, decide_eq_true_eq, Int.reduceEq, Int.reduceLT, Int.reduceLE, Int.reduceAdd, Int.reduceSub, Int.reduceNe, Int.reduceNeg, Int.cast_ofNat_Int, ne_eq, not_true_eq_false, not_false_eq_true])
end M
theorem PySem.Challenge.cw_backforth_k48_orbits_listed_holds : PySem.Challenge.rw_backforth_k48_orbits_listed.Holds :=
  G.holds M.law_true
