import PyProof.Rows.All
import Wide.All
import OpenK.AllK
import Wide.FinOn
import HandS.ForMost
import HandS.Conv
import HandS.Sort
import HandS.SortOrd
import HandS.SortRule
import HandS.IsInst
import HandS.Style
import HandS.SetKeys
import PySem.Challenge.RW_tidefold_k21_sittings_are_kept_on
set_option Elab.async false
set_option linter.all false
set_option maxRecDepth 100000
set_option maxHeartbeats 4000000
/-! rows (time, key, value) in order: sorted of lists of such tuples, sorted of dicts with such keys -/
namespace L2.TdS
open PySem PySem.Spec PyProof.Rows

abbrev Row := Int × PySem.Str × Int
def strLt (x y : PySem.Str) : Bool := decide (x.cps.toList < y.cps.toList)
theorem str_ext {x y : PySem.Str} (h : x.cps.toList = y.cps.toList) : x = y := by
  cases x with
  | mk a =>
    cases y with
    | mk b =>
      have : a = b := Array.toList_inj.mp h
      rw [this]
theorem strLt_irr (x : PySem.Str) : strLt x x = false := decide_eq_false (List.lt_irrefl _)
theorem strLt_asym {x y : PySem.Str} (h : strLt x y = true) : strLt y x = false := by
  refine decide_eq_false fun k => ?_
  exact List.lt_irrefl _ (List.lt_trans (of_decide_eq_true h) k)
theorem strLt_tri {x y : PySem.Str} (h : strLt x y = false) (k : strLt y x = false) : x = y := by
  have h' := of_decide_eq_false h
  have k' := of_decide_eq_false k
  exact str_ext (List.le_antisymm (List.not_lt.mp k') (List.not_lt.mp h'))
theorem strLt_ntr {x y z : PySem.Str} (h : strLt y x = false) (k : strLt z y = false) : strLt z x = false := by
  have h' := List.not_lt.mp (of_decide_eq_false h)
  have k' := List.not_lt.mp (of_decide_eq_false k)
  exact decide_eq_false (List.not_lt.mpr (List.le_trans h' k'))
/-- the order of rows -/
def ltR (p q : Row) : Bool := if p.1 = q.1 then (if p.2.1 = q.2.1 then decide (p.2.2 < q.2.2) else strLt p.2.1 q.2.1) else decide (p.1 < q.1)
theorem ltR_iff {p q : Row} : ltR p q = true ↔ p.1 < q.1 ∨ (p.1 = q.1 ∧ ((p.2.1 = q.2.1 ∧ p.2.2 < q.2.2) ∨ strLt p.2.1 q.2.1 = true)) := by
  unfold ltR
  by_cases e : p.1 = q.1
  · rw [if_pos e]
    by_cases e2 : p.2.1 = q.2.1
    · rw [if_pos e2, decide_eq_true_eq]
      have : strLt p.2.1 q.2.1 = false := by rw [e2]; exact strLt_irr _
      rw [this]
      constructor
      · exact fun h => .inr ⟨e, .inl ⟨e2, h⟩⟩
      · rintro (h | ⟨_, ⟨_, h⟩ | h⟩)
        · omega
        · exact h
        · cases h
    · rw [if_neg e2]
      constructor
      · exact fun h => .inr ⟨e, .inr h⟩
      · rintro (h | ⟨_, ⟨h, _⟩ | h⟩)
        · omega
        · exact absurd h e2
        · exact h
  · rw [if_neg e, decide_eq_true_eq]
    constructor
    · exact .inl
    · rintro (h | ⟨h, _⟩)
      · exact h
      · exact absurd h e
theorem ltR_asym {p q : Row} (h : ltR p q = true) : ltR q p = false := by
  cases k : ltR q p with
  | false => rfl
  | true =>
    exfalso
    rcases ltR_iff.mp h with a | ⟨a, ⟨b, c⟩ | b⟩ <;> rcases ltR_iff.mp k with a' | ⟨a', ⟨b', c'⟩ | b'⟩
    · omega
    · omega
    · omega
    · omega
    · omega
    · rw [b, strLt_irr] at b'; cases b'
    · omega
    · rw [b', strLt_irr] at b; cases b
    · rw [strLt_asym b] at b'; cases b'
theorem ltR_tri {p q : Row} (h : ltR p q = false) (k : ltR q p = false) : p = q := by
  have e1 : p.1 = q.1 := by
    rcases Int.lt_trichotomy p.1 q.1 with z | z | z
    · rw [ltR_iff.mpr (.inl z)] at h; cases h
    · exact z
    · rw [ltR_iff.mpr (.inl z)] at k; cases k
  have e2 : p.2.1 = q.2.1 := by
    refine strLt_tri ?_ ?_
    · cases z : strLt p.2.1 q.2.1 with
      | false => rfl
      | true => rw [ltR_iff.mpr (.inr ⟨e1, .inr z⟩)] at h; cases h
    · cases z : strLt q.2.1 p.2.1 with
      | false => rfl
      | true => rw [ltR_iff.mpr (.inr ⟨e1.symm, .inr z⟩)] at k; cases k
  have e3 : p.2.2 = q.2.2 := by
    rcases Int.lt_trichotomy p.2.2 q.2.2 with z | z | z
    · rw [ltR_iff.mpr (.inr ⟨e1, .inl ⟨e2, z⟩⟩)] at h; cases h
    · exact z
    · rw [ltR_iff.mpr (.inr ⟨e1.symm, .inl ⟨e2.symm, z⟩⟩)] at k; cases k
  exact Prod.ext e1 (Prod.ext e2 e3)
theorem ltR_no {p q : Row} : ltR p q = false ↔ p = q ∨ ltR q p = true := by
  constructor
  · intro h
    cases k : ltR q p with
    | true => exact .inr rfl
    | false => exact .inl (ltR_tri h k)
  · rintro (h | h)
    · subst h
      cases k : ltR p p with
      | false => rfl
      | true => have := ltR_asym k; rw [k] at this; cases this
    · exact ltR_asym h
theorem ltR_trans {p q r : Row} (h : ltR p q = true) (k : ltR q r = true) : ltR p r = true := by
  rcases ltR_iff.mp h with a | ⟨a, ⟨b, c⟩ | b⟩ <;> rcases ltR_iff.mp k with a' | ⟨a', ⟨b', c'⟩ | b'⟩ <;> refine ltR_iff.mpr ?_
  · exact .inl (by omega)
  · exact .inl (by omega)
  · exact .inl (by omega)
  · exact .inl (by omega)
  · exact .inr ⟨a.trans a', .inl ⟨b.trans b', by omega⟩⟩
  · exact .inr ⟨a.trans a', .inr (by rw [b]; exact b')⟩
  · exact .inl (by omega)
  · exact .inr ⟨a.trans a', .inr (by rw [← b']; exact b)⟩
  · refine .inr ⟨a.trans a', .inr ?_⟩
    exact decide_eq_true (List.lt_trans (of_decide_eq_true b) (of_decide_eq_true b'))
theorem ltR_ntr {p q r : Row} (h : ltR q p = false) (k : ltR r q = false) : ltR r p = false := by
  rcases ltR_no.mp h with e | h
  · subst e
    exact k
  · rcases ltR_no.mp k with e | k
    · subst e
      exact ltR_asym h
    · exact ltR_asym (ltR_trans h k)
theorem swo_R {α : Type} (k : α → Row) : SrtO.Swo fun x y => ltR (k x) (k y) := ⟨fun x y h => ltR_asym h, fun x y z h1 h2 => ltR_ntr h1 h2⟩

/-! ### rows as objects, named by their addresses -/
/-- at b lies a tuple that holds r -/
def RowObj (h : Heap) (r : Row) (b : Addr) : Prop := ∃ (o : Obj) (i j m n : Nat), (h.get? b = some o ∧ o.cls = .type "tuple") ∧ o.data = .seq #[.int r.1 i, .str r.2.1 j, .int r.2.2 m] n
/-- each of bs names its row -/
abbrev RowObjs (h : Heap) (kr : Addr → Row) (bs : List Addr) : Prop := ∀ b ∈ bs, RowObj h (kr b) b
theorem RowObjs.on {h h' : Heap} {kr : Addr → Row} {bs : List Addr} (p : RowObjs h kr bs) (keep : ∀ b ob, h.get? b = some ob → ob.cls = .type "tuple" → h'.get? b = some ob) : RowObjs h' kr bs := fun b m =>
  match p b m with
  | ⟨o, i, j, m, n, ⟨at_, tp⟩, dt⟩ => ⟨o, i, j, m, n, ⟨keep b o at_ tp, tp⟩, dt⟩
abbrev raws (bs : List Addr) : List Value := bs.map Value.ref
def adr : Value → Addr
  | .ref b => b
  | _ => 0
/-- values by the rows at their addresses -/
abbrev ltA (kr : Addr → Row) (v u : Value) : Bool := ltR (kr (adr v)) (kr (adr u))
/-- what a rearrangement of references is -/
theorem perm_raws {bs : List Addr} {out : List Value} (h : out.Perm (raws bs)) : ∃ cs : List Addr, cs.Perm bs ∧ out = raws cs := by
  have e1 : (raws bs).map adr = bs := by rw [List.map_map]; exact List.map_id bs
  have e2 : out.map (fun v => Value.ref (adr v)) = out := by
    refine (List.map_congr_left (g := id) fun v hv => ?_).trans (List.map_id out)
    obtain ⟨b, _, e⟩ := List.mem_map.mp (h.mem_iff.mp hv)
    rw [← e]
    rfl
  refine ⟨out.map adr, e1 ▸ h.map adr, ?_⟩
  rw [raws, List.map_map]
  exact e2.symm
section
variable {prog : Program} {w : World} {A : Around} {E : Value → Shared → Prop} {s : Shared}
/-- the first items: whole numbers, one for each -/
theorem heads {h : Heap} {kr : Addr → Row} : ∀ bs : List Addr, RowObjs h kr bs → ∃ fs : List Value, (fs.length = bs.length ∧ ∀ v ∈ fs, ∃ x i, v = .int x i) ∧ PySem.W.KatTups h (raws bs) fs
  | [], _ => ⟨[], ⟨rfl, fun v m => nomatch m⟩, PySem.W.KatTups.nil⟩
  | b :: bs, p =>
    match p b (.head _), heads bs fun c m => p c (.tail _ m) with
    | ⟨_, i, _, _, _, ⟨at_, tp⟩, dt⟩, ⟨fs, ⟨len, nums⟩, kt⟩ => ⟨.int (kr b).1 i :: fs, ⟨congrArg Nat.succ len, fun v m => by
        cases m with
        | head => exact ⟨_, i, rfl⟩
        | tail _ m => exact nums v m⟩, .cons at_ tp dt rfl kt⟩

/-! one column of the comparing: where it differs it decides, else the rest does -/
section
variable {c fin : Bool} {Q : Bool → Shared → Prop} {rest : List (Value × Value)} {pos : Nat}
theorem col_int {x y : Int} {i j : Nat} (ne : x ≠ y → Q (decide (x < y)) s) (eq : x = y → PySem.W.KatLex prog w A c fin Q rest (pos + 1) s) : PySem.W.KatLex prog w A c fin Q ((.int x i, .int y j) :: rest) pos s :=
  PySem.W.kat_cons (SeqAt.EqAt.int_int x i y j prog w _ _ (PySem.W.kat_go (fun t => PySem.W.kat_yes (eq (by simpa using t))) fun f => PySem.W.kat_no (TS.oneLt_ints _ (ne (by simpa using f)))))
theorem col_str {x y : PySem.Str} {i j : Nat} (ne : x ≠ y → Q (strLt x y) s) (eq : x = y → PySem.W.KatLex prog w A c fin Q rest (pos + 2) s) : PySem.W.KatLex prog w A c fin Q ((.str x i, .str y j) :: rest) (pos + 1) s :=
  PySem.W.kat_cons (SeqAt.EqAt.str_str x i y j prog w _ _ (PySem.W.kat_go (fun t => PySem.W.kat_yes (eq (by simpa using t))) fun f => by
    have q := ne (by simpa using f)
    refine PySem.W.kat_no ?_
    rw [show (c && pos + 1 == 0) = false by simp]
    exact PySem.W.kat_one _ _ (PyProof.Rows.lt_str q)))
end
theorem rows_lex {p q : Row} {c : Bool} {i j m i' j' m' : Nat} : PySem.W.KatLex prog w A c false (fun b s' => s' = s ∧ b = ltR p q) [(.int p.1 i, .int q.1 i'), (.str p.2.1 j, .str q.2.1 j'), (.int p.2.2 m, .int q.2.2 m')] 0 s := by
  unfold ltR
  refine col_int (fun n => ⟨rfl, (if_neg n).symm⟩) fun e1 => ?_
  rw [if_pos e1]
  refine col_str (fun n => ⟨rfl, (if_neg n).symm⟩) fun e2 => ?_
  rw [if_pos e2]
  exact col_int (fun _ => ⟨rfl, rfl⟩) fun e3 => PySem.W.kat_nil ⟨rfl, by rw [e3, decide_eq_false (Int.lt_irrefl _)]⟩
theorem rows_cmp {kr : Addr → Row} {bs : List Addr} (p : RowObjs s.heap kr bs) : SrtO.Cmp prog w A s (tuples' true) (fun x => x.1 ∈ raws bs) (SrtO.lt2 (ltA kr)) := by
  rintro ⟨v, v2⟩ ⟨u, u2⟩ mv mu
  obtain ⟨b, hb, rfl⟩ := List.mem_map.mp mv
  obtain ⟨d, hd, rfl⟩ := List.mem_map.mp mu
  obtain ⟨_, _, _, _, _, ⟨at1, _⟩, dt1⟩ := p b hb
  obtain ⟨_, _, _, _, _, ⟨at2, _⟩, dt2⟩ := p d hd
  exact PySem.W.kat_lt at1 dt1 at2 dt2 rows_lex
/-- a list of rows can be sorted where it stands -/
theorem rows_can {a : Addr} {kr : Addr → Row} {bs : List Addr} {n : Nat} (p : RowObjs s.heap kr bs) (two : 2 ≤ (raws bs).length) (at_ : s.heap.get? a = some (seqObj "list" (raws bs).toArray n)) : SrtO.SortableO prog w A s a (raws bs) (ltA kr) := fun h' keep => by
  have off : ∀ b ob, s.heap.get? b = some ob → ob.cls = .type "tuple" → b ≠ a := fun b ob g tp e => by
    rw [e, at_] at g
    rw [← Option.some.inj g] at tp
    simp [seqObj] at tp
  have p' : RowObjs h' kr bs := p.on fun b ob g tp => keep b ob (off b ob g tp) g
  obtain ⟨fs, ⟨len, nums⟩, kt⟩ := heads bs p'
  rw [List.length_map] at two
  refine ⟨tuples' true, fun Q _ done => PySem.W.kat_kind (T := .type "int") kt (len ▸ Nat.lt_of_lt_of_le Nat.two_pos two) (fun v m => ?_) (by decide +kernel) ?_, rows_cmp p'⟩
  · rcases nums v m with ⟨x, i, e⟩
    rw [e]
    exact .now
  · rw [show (Value.type "int" != Value.type "tuple") = true by decide +kernel]
    exact done
end

/-! ### over the layer -/
def RowA (H : Hp) (a : Addr) (r : Row) : Prop := H a = some (.tup [.int r.1, .str r.2.1, .int r.2.2])
abbrev ltV (k : V → Row) (x y : V) : Bool := ltR (k x) (k y)
def SortedOf (k : V → Row) (xs ys : List V) : Prop := SrtO.Srtd (ltV k) ys ∧ ys.Perm xs
def rSortedR (K : PySem.W.Frag) : List V → Hp → VK → Prop := fun vs H Q => ∃ (a : Addr) (xs : List V) (k : V → Row), vs = [V.ref a] ∧ SqL K H a xs ∧ (∀ x ∈ xs, ∃ t, x = V.ref t ∧ RowA H t (k x)) ∧
  ∀ ys p, SortedOf k xs ys → H p = none → Q (.ref p) (upd H p (.lst ys))
/-- the rows of addresses, by a reading of references -/
abbrev kad (k : V → Row) (b : Addr) : Row := k (.ref b)
section
variable {X : Cx} {pins : List (Addr × Obj)} {σ : St} {H : Hp} {s : Shared}
theorem row_raw (I : Inv X pins σ H s) {b : Addr} {r : Row} (ht : RowA H b r) : RowObj s.heap r b := by
  obtain ⟨_, us, rel, o, at_, tp, n, dt⟩ := I.hok _ _ ht
  rcases rel with _ | ⟨⟨i, rfl⟩, _ | ⟨⟨j, rfl⟩, _ | ⟨⟨m, rfl⟩, _ | _⟩⟩⟩
  exact ⟨o, i, j, m, n, ⟨at_, tp⟩, dt⟩
theorem rows_raw (I : Inv X pins σ H s) {k : V → Row} {bs : List Addr} (h : ∀ b ∈ bs, RowA H b (k (.ref b))) : RowObjs s.heap (kad k) bs := fun b m => row_raw I (h b m)
/-- references among the values, and raw -/
theorem as_refs {k : V → Row} : ∀ xs : List V, (∀ x ∈ xs, ∃ t, x = V.ref t ∧ RowA H t (k x)) → ∃ bs : List Addr, xs = bs.map V.ref ∧ ∀ b ∈ bs, RowA H b (k (.ref b))
  | [], _ => ⟨[], rfl, fun _ m => nomatch m⟩
  | x :: xs, h =>
    match h x (.head _), as_refs xs fun y m => h y (.tail _ m) with
    | ⟨t, e, ht⟩, ⟨bs, es, hs⟩ => ⟨t :: bs, by rw [e, es]; rfl, fun b m => by
        cases m with
        | head => exact e ▸ ht
        | tail _ m => exact hs b m⟩
theorem raws_of : ∀ {bs : List Addr} {us : List Value}, Vals (bs.map V.ref) us → us = raws bs
  | [], _, .nil => rfl
  | b :: bs, _, .cons e r => by rw [show _ = Value.ref b from e, raws_of r]; rfl
/-- the sorted list that was laid, as the rules tell it -/
theorem laid_sorted (I : Inv X pins σ H s) {k : V → Row} {bs : List Addr} {out : List Value} {h' : Heap} {d n t' : Nat} {Q : VK} (so : SrtO.Srtd (ltA (kad k)) out) (pm : out.Perm (raws bs)) (small : bs.length ≤ sizeLine)
    (old : ∀ b ob, s.heap.get? b = some ob → h'.get? b = some ob) (new : s.heap.objs.size ≤ d) (at_ : h'.get? d = some (seqObj "list" out.toArray n)) (q : ∀ ys p, SortedOf k (bs.map V.ref) ys → H p = none → Q (.ref p) (upd H p (.lst ys))) :
    EP X pins σ Q (.ref d) { s with heap := h', toks := t' } := by
  obtain ⟨cs, pc, rfl⟩ := perm_raws pm
  have fresh : H d = none := I.hok.fresh new
  have obj : ObjOk X.prog X.w (upd H d (.lst (cs.map V.ref))) h' d (.lst (cs.map V.ref)) := ⟨by rw [List.length_map, pc.length_eq]; exact small, raws cs, n, vals_refs cs, at_⟩
  exact ⟨.ref d, _, I.laid (t' := t') old new obj, rfl, q (cs.map V.ref) d ⟨List.pairwise_map.mpr (List.pairwise_map.mp so), pc.map V.ref⟩ fresh⟩
theorem cr_sortedR : CallR X (.builtin "sorted") (rSortedR X.K) := by
  rintro pins s σ H _ _ Q I (_ | ⟨ru, _ | ⟨_, _⟩⟩) ⟨a, xs, k, e, sq, rows, q⟩
  · cases e
  · obtain rfl : _ = V.ref a := (List.cons.inj e).1
    obtain ⟨bs, rfl, hb⟩ := as_refs xs rows
    obtain ⟨us, rel, at_, small⟩ := I.list sq
    rw [List.length_map] at small
    rw [raws_of rel] at at_
    rw [show _ = Value.ref a from ru]
    refine SrtO.sorted_ord (swo_R fun v => kad k (adr v)) at_.isList (by rw [List.length_map]; exact small) (fun two h1 d hd keep => rows_can (s := { s with heap := h1 }) ((rows_raw I hb).on fun b ob g _ => (keep b ob g).2) two hd) fun out so st => ?_
    obtain ⟨n, hn⟩ := sortedAll_at s.heap (raws bs) out.toArray
    exact laid_sorted (t' := s.toks) I so st.perm small (fun b ob g => sortedAll_old g) (Nat.le_add_right _ 1) hn q
  · cases e
/-- sorted(d): a dict whose keys are rows -/
def rSortedRD : List V → Hp → VK → Prop := fun vs H Q => ∃ (d : Addr) (kvs : List (List Key × V)), vs = [V.ref d] ∧ Rd H d (.dT kvs) ∧ (∀ p ∈ kvs, ∃ r : Row, p.1 = [.inl r.1, .inr r.2.1, .inl r.2.2]) ∧
  ∀ bs (k : V → Row) ys p, IsKeys H kvs bs → (∀ b ∈ bs, RowA H b (k (.ref b))) → SortedOf k (bs.map V.ref) ys → H p = none → Q (.ref p) (upd H p (.lst ys))
def rowAt (H : Hp) : V → Row
  | .ref a => match H a with
    | some (.tup [.int t, .str k, .int v]) => (t, k, v)
    | _ => (0, ⟨#[]⟩, 0)
  | _ => (0, ⟨#[]⟩, 0)
theorem rowAt_of {H : Hp} {a : Addr} {r : Row} (h : RowA H a r) : rowAt H (.ref a) = r := by
  simp only [rowAt, show H a = some (.tup [.int r.1, .str r.2.1, .int r.2.2]) from h]
theorem keys_rows {H : Hp} : ∀ {kvs : List (List Key × V)} {bs : List Addr}, IsKeys H kvs bs → (∀ p ∈ kvs, ∃ r : Row, p.1 = [.inl r.1, .inr r.2.1, .inl r.2.2]) → ∀ b ∈ bs, RowA H b (rowAt H (.ref b))
  | _, _, .nil, _, _, m => nomatch m
  | _, _, .cons h _, ks, _, .head _ => by
    obtain ⟨r, e⟩ := ks _ (.head _)
    rw [e] at h
    rw [rowAt_of (r := r) h]
    exact h
  | _, _, .cons _ t, ks, b, .tail _ m => keys_rows t (fun p hm => ks p (.tail _ hm)) b m
/-- what was collected from a dict's keys -/
theorem got_keys {ι : Type} {f : ι → DictEntry} {g : ι → Value} (hfg : ∀ x, (f x).key = g x) {es : Array DictEntry} {ks : List ι} (he : es.toList = ks.map f) {acc : Array Value} (it : ItemsOf (fun i v => ∃ en : DictEntry, es[i]? = some en ∧ v = en.key) acc es.size) : acc.toList = ks.map g := by
  have hk : ks.map g = es.toList.map fun e => e.key := by rw [he, List.map_map]; exact List.map_congr_left fun x _ => (hfg x).symm
  rw [hk]
  refine List.ext_getElem (by rw [List.length_map, Array.length_toList, Array.length_toList]; exact it.1) fun j h1 h2 => ?_
  rw [List.getElem_map]
  obtain ⟨en, hen, hv⟩ := it.2 j acc.toList[j] (by rw [← Array.getElem?_toList, List.getElem?_eq_getElem h1])
  rw [hv]
  rw [← Array.getElem?_toList, List.getElem?_eq_getElem (by rw [List.length_map] at h2; exact h2)] at hen
  rw [Option.some.inj hen]
/-- `sorted` of what is no list: once its items are collected, they are laid, sorted there, and that list is given -/
theorem sorted_got {v : Value} {kr : Addr → Row} {bs : List Addr} {Q : Value → Shared → Prop} {E : Value → Shared → Prop} {prog : Program} {w : World} {A : Around} (small : (raws bs).length ≤ sizeLine)
    (got : ∀ R : List Value → Shared → Prop, (∀ (h' : Heap) (tk : Nat), (∀ b ob, s.heap.get? b = some ob → h'.get? b = some ob) → R (raws bs) { s with heap := h', toks := tk }) → wpAny (model prog w) A.in1 (collect v) R E s) (rows : RowObjs s.heap kr bs)
    (done : ∀ (h1 h' : Heap) (n tk : Nat) (out : List Value), SrtO.Srtd (ltA kr) out → out.Perm (raws bs) → (∀ b ob, s.heap.get? b = some ob → h1.get? b = some ob) → (∀ b ob, h1.get? b = some ob → h'.get? b = some ob) → h'.get? h1.objs.size = some (seqObj "list" out.toArray n) → Q (.ref h1.objs.size) { s with heap := h', toks := tk }) :
    wpAny (model prog w) A (call (.builtin "sorted") [v]) Q E s := by
  refine Calls.call_function_entry PyProof.Rows.kind_sorted PyProof.Rows.plain_sorted PyProof.Rows.entry_sorted (PyProof.Rows.args_sorted1 v) ?_
  unfold Builtin.«sorted»
  refine wpAny_bind (m := checkCount "sorted" 1 1 _) (wpAny_pure (wpAny_bind (got _ fun h1 tk keep1 => wpAny_bind (wpAny_newList ?_ small))))
  let h2 := h1.push (seqObj "list" (raws bs).toArray 0)
  have at2 : h2.get? h1.objs.size = some (seqObj "list" (raws bs).toArray 0) := Heap.get?_push_size _ rfl
  have keep2 : ∀ b ob, h1.get? b = some ob → b < h1.objs.size ∧ h2.get? b = some ob := fun b ob g => ⟨Heap.lt_size g, Heap.get?_push_of_some _ g⟩
  have can : 2 ≤ (raws bs).length → SrtO.SortableO prog w A.in1.in1 { s with heap := h2, toks := tk } h1.objs.size (raws bs) (ltA kr) := fun two => rows_can (s := { s with heap := h2, toks := tk }) (rows.on fun b ob g _ => (keep2 b ob (keep1 b ob g)).2) two at2
  show wpAny _ _ _ _ _ { s with heap := h2, toks := tk }
  refine wpAny_bind (wpAny_holding (wpAny_call_entry PyProof.Rows.slot_list_sort ⟨_, at2, rfl⟩ PyProof.Rows.entry_list_sort (SrtO.list_sort_ord (s := { s with heap := h2, toks := tk }) (swo_R fun v => kr (adr v)) at2 small can fun out so st => ⟨_, rfl, wpAny_pure ?_⟩) (PyProof.Rows.args_list_sort _)))
  obtain ⟨n, at3⟩ := PyProof.Rows.sortedHeap_at (out := out.toArray) at2
  have keep3 : ∀ b ob, h1.get? b = some ob → (sortedHeap h2 h1.objs.size (raws bs) out.toArray).get? b = some ob := fun b ob g => by
    obtain ⟨lt, g2⟩ := keep2 b ob g
    have lt2 : b < h2.objs.size := Heap.lt_size g2
    exact (PyProof.Rows.sortedHeap_old (Nat.ne_of_lt lt) lt2).trans g2
  exact ⟨_, rfl, done h1 _ n tk out so st.perm keep1 keep3 at3⟩
theorem cr_sortedRD (hc : X.calm = true) : CallR X (.builtin "sorted") rSortedRD := by
  rintro pins s σ H _ _ Q I (_ | ⟨ru, _ | ⟨_, _⟩⟩) ⟨d, kvs, e, rd, ks, q⟩
  · cases e
  · obtain rfl : _ = V.ref d := (List.cons.inj e).1
    rw [show _ = Value.ref d from ru]
    obtain ⟨big, sml, ents, kt, o, es, ep, at_, cls, dat, lst, _⟩ := (show ObjOk X.prog X.w H s.heap d (.dT kvs) from rd.ok I.hok)
    have ik := isKeys_of kt
    have hb := keys_rows ik ks
    have le : ents.length ≤ sizeLine := (Paired.length kt) ▸ big
    have en : es.size = ents.length := size_of_entries lst
    refine sorted_got (by rw [List.length_map, List.length_map]; exact le) (fun R next => PySem.W.kdu_collect (A := X.A.in1) (kdl_raw sml cls dat) (I.ok.hd hc) at_ (by rw [en]; exact le) fun h' tk acc keep it => ?_) (rows_raw (k := rowAt H) I hb)
      fun h1 h' n tk out so pm keep1 keep2 at2 => laid_sorted (t' := tk) (I.kept (t' := tk) keep1) so pm (by rw [List.length_map]; exact le) keep2 (Nat.le_refl _) at2 fun ys p => q _ (rowAt H) ys p ik hb
    rw [got_keys (f := entryOfKey (tupleKind (mixKind X.prog X.w))) (g := fun x => Value.ref x.2.1) (fun _ => rfl) lst it]
    have := next h' tk keep
    rwa [raws, List.map_map] at this
  · cases e
end

/-! ### an expression whose dict is from now on locked -/
def tFrz (t : TE) : TE := fun σ H Q => t σ H fun x H1 => ∃ d u, x = .ref d ∧ H1 d = some u ∧ Mut (some u) ∧ ∀ od, Q x (upd H1 d (.frz od u))
theorem pe_frz {X : Cx} {e : Expr} {t : TE} (h : PE X e t) : PE X e (tFrz t) := by
  refine ⟨fun pins s σ H Q I hw => ?_⟩
  refine thn (h.run pins s σ H _ I hw) fun v s1 ⟨x, H1, I1, r, d, u, e, hd, mu, q⟩ => ?_
  obtain ⟨od, I2⟩ := I1.lock hd mu
  exact ⟨x, _, I2, r, q od⟩
end L2.TdS
/-! The plain law: what is kept of sittings, over lists; no program in sight. -/
namespace Td

/-! ### bags: lists of rows with counts -/
section bags
variable {κ : Type} [DecidableEq κ]
abbrev Rw (κ : Type) := Int × κ × Int
abbrev Bg (κ : Type) := List (Rw κ × Int)
def cnt (ps : Bg κ) (r : Rw κ) : Int := match ps with
  | [] => 0
  | p :: t => (if p.1 = r then p.2 else 0) + cnt t r
theorem cnt_nil (r : Rw κ) : cnt [] r = 0 := rfl
theorem cnt_cons (p : Rw κ × Int) (t : Bg κ) (r : Rw κ) : cnt (p :: t) r = (if p.1 = r then p.2 else 0) + cnt t r := rfl
theorem cnt_append (a b : Bg κ) (r : Rw κ) : cnt (a ++ b) r = cnt a r + cnt b r := by
  induction a with
  | nil => rw [List.nil_append, cnt_nil]; omega
  | cons p t ih => rw [List.cons_append, cnt_cons, cnt_cons, ih]; omega
theorem cnt_zero {ps : Bg κ} {r : Rw κ} (h : ∀ p ∈ ps, p.1 ≠ r) : cnt ps r = 0 := by
  induction ps with
  | nil => rfl
  | cons p t ih =>
    rw [cnt_cons, if_neg (h p (List.mem_cons_self ..)), ih fun q hq => h q (List.mem_cons_of_mem _ hq)]
    omega
theorem cnt_filter (g : Rw κ → Bool) (ps : Bg κ) (r : Rw κ) : cnt (ps.filter fun p => g p.1) r = if g r = true then cnt ps r else 0 := by
  induction ps with
  | nil => simp [cnt_nil]
  | cons p t ih =>
    by_cases e : p.1 = r
    · subst e
      by_cases hg : g p.1 = true
      · rw [List.filter_cons, if_pos hg, cnt_cons, cnt_cons, ih, if_pos hg, if_pos hg]
      · rw [List.filter_cons, if_neg hg, ih, if_neg hg]
        simp [hg]
    · by_cases hg : g p.1 = true
      · rw [List.filter_cons, if_pos hg, cnt_cons, cnt_cons, ih, if_neg e]
        split <;> omega
      · rw [List.filter_cons, if_neg hg, ih, cnt_cons, if_neg e]
        split <;> omega
theorem cnt_nonneg {ps : Bg κ} (h : ∀ p ∈ ps, 0 ≤ p.2) (r : Rw κ) : 0 ≤ cnt ps r := by
  induction ps with
  | nil => exact Int.le_refl 0
  | cons p t ih =>
    have h1 := h p (List.mem_cons_self ..)
    have h2 := ih fun q hq => h q (List.mem_cons_of_mem _ hq)
    rw [cnt_cons]
    split <;> omega

/-- each row once, in the order lt, no count 0 -/
structure Canon (lt : Rw κ → Rw κ → Prop) (l : Bg κ) : Prop where
  srt : l.Pairwise fun p q => lt p.1 q.1
  nz : ∀ p ∈ l, p.2 ≠ 0
variable {lt : Rw κ → Rw κ → Prop}
theorem Canon.nil : Canon lt ([] : Bg κ) := ⟨List.Pairwise.nil, fun p h => by simp at h⟩
theorem Canon.filter {l : Bg κ} (h : Canon lt l) (g : Rw κ × Int → Bool) : Canon lt (l.filter g) :=
  ⟨h.srt.filter g, fun p hp => h.nz p (List.mem_filter.mp hp).1⟩
theorem Canon.one {r : Rw κ} {c : Int} (h : c ≠ 0) : Canon lt [(r, c)] :=
  ⟨List.pairwise_singleton _ _, fun p hp => by rw [List.mem_singleton] at hp; subst hp; exact h⟩
theorem Canon.tail {p : Rw κ × Int} {l : Bg κ} (h : Canon lt (p :: l)) : Canon lt l :=
  ⟨(List.pairwise_cons.mp h.srt).2, fun q hq => h.nz q (List.mem_cons_of_mem _ hq)⟩
theorem Canon.mem_cnt (irr : ∀ r, ¬ lt r r) {l : Bg κ} (h : Canon lt l) {p : Rw κ × Int} (hp : p ∈ l) : cnt l p.1 = p.2 := by
  induction l with
  | nil => simp at hp
  | cons q t ih =>
    have hs := (List.pairwise_cons.mp h.srt).1
    rcases List.mem_cons.mp hp with rfl | hm
    · rw [cnt_cons, if_pos rfl, cnt_zero fun u hu e => irr p.1 (by have := hs u hu; rw [e] at this; exact this)]
      omega
    · have ne : q.1 ≠ p.1 := fun e => irr p.1 (by have := hs p hm; rw [e] at this; exact this)
      rw [cnt_cons, if_neg ne, ih h.tail hm]
      omega
theorem Canon.cnt_mem {l : Bg κ} {r : Rw κ} (h : cnt l r ≠ 0) : ∃ p ∈ l, p.1 = r := by
  induction l with
  | nil => exact absurd rfl h
  | cons q t ih =>
    rw [cnt_cons] at h
    by_cases e : q.1 = r
    · exact ⟨q, List.mem_cons_self .., e⟩
    · rw [if_neg e] at h
      obtain ⟨p, hp, ep⟩ := ih (by omega)
      exact ⟨p, List.mem_cons_of_mem _ hp, ep⟩
theorem Canon.mem_iff (irr : ∀ r, ¬ lt r r) {l : Bg κ} (h : Canon lt l) (p : Rw κ × Int) : p ∈ l ↔ cnt l p.1 = p.2 ∧ p.2 ≠ 0 := by
  refine ⟨fun hp => ⟨h.mem_cnt irr hp, h.nz p hp⟩, fun ⟨h1, h2⟩ => ?_⟩
  obtain ⟨q, hq, e⟩ := Canon.cnt_mem (l := l) (r := p.1) (by rw [h1]; exact h2)
  have hc := h.mem_cnt irr hq
  rw [e, h1] at hc
  have : p = q := Prod.ext e.symm hc
  rw [this]
  exact hq
theorem srt_ext {α : Type} {R : α → α → Prop} (asym : ∀ a b, R a b → ¬ R b a) : ∀ {l m : List α}, l.Pairwise R → m.Pairwise R → (∀ x, x ∈ l ↔ x ∈ m) → l = m
  | [], [], _, _, _ => rfl
  | [], b :: m, _, _, h => by
    have := (h b).mpr (List.mem_cons_self ..)
    simp at this
  | a :: l, [], _, _, h => by
    have := (h a).mp (List.mem_cons_self ..)
    simp at this
  | a :: l, b :: m, hl, hm, h => by
    obtain ⟨hl1, hl2⟩ := List.pairwise_cons.mp hl
    obtain ⟨hm1, hm2⟩ := List.pairwise_cons.mp hm
    have e : a = b := by
      rcases List.mem_cons.mp ((h a).mp (List.mem_cons_self ..)) with e | h1
      · exact e
      · rcases List.mem_cons.mp ((h b).mpr (List.mem_cons_self ..)) with e | h2
        · exact e.symm
        · exact absurd (hm1 a h1) (asym _ _ (hl1 b h2))
    subst e
    have ia : ∀ x, R a x → x ≠ a := fun x hx e => by subst e; exact asym _ _ hx hx
    rw [srt_ext asym hl2 hm2 fun x => ?_]
    constructor
    · intro hx
      rcases List.mem_cons.mp ((h x).mp (List.mem_cons_of_mem _ hx)) with e | h1
      · exact absurd e (ia x (hl1 x hx))
      · exact h1
    · intro hx
      rcases List.mem_cons.mp ((h x).mpr (List.mem_cons_of_mem _ hx)) with e | h1
      · exact absurd e (ia x (hm1 x hx))
      · exact h1
theorem canon_ext (asym : ∀ a b, lt a b → ¬ lt b a) {l m : Bg κ} (hl : Canon lt l) (hm : Canon lt m) (h : ∀ r, cnt l r = cnt m r) : l = m := by
  have irr : ∀ r, ¬ lt r r := fun r hr => asym _ _ hr hr
  refine srt_ext (R := fun p q : Rw κ × Int => lt p.1 q.1) (fun a b => asym a.1 b.1) hl.srt hm.srt fun p => ?_
  rw [hl.mem_iff irr, hm.mem_iff irr, h]
theorem Canon.pos (irr : ∀ r, ¬ lt r r) {l : Bg κ} (h : Canon lt l) (hc : ∀ r, 0 ≤ cnt l r) : ∀ p ∈ l, 0 < p.2 := fun p hp => by
  have h1 := h.mem_cnt irr hp
  have h2 := h.nz p hp
  have h3 := hc p.1
  omega
/-- cut by time -/
theorem filter_split {l : Bg κ} {w w' : Int} (hw : w ≤ w') (h : l.Pairwise fun p q => p.1.1 ≤ q.1.1) :
    (l.filter fun p => decide (p.1.1 < w')) = (l.filter fun p => decide (p.1.1 < w)) ++ l.filter fun p => decide (w ≤ p.1.1 ∧ p.1.1 < w') := by
  induction l with
  | nil => rfl
  | cons p t ih =>
    obtain ⟨h1, h2⟩ := List.pairwise_cons.mp h
    by_cases a : p.1.1 < w
    · rw [List.filter_cons, if_pos (decide_eq_true (by omega)), List.filter_cons, if_pos (decide_eq_true a), List.filter_cons, if_neg (by simp; omega), ih h2]
      rfl
    · have z : (t.filter fun p => decide (p.1.1 < w)) = [] := List.filter_eq_nil_iff.mpr fun q hq => by
        have := h1 q hq
        simp
        omega
      have ih' := ih h2
      rw [z, List.nil_append] at ih'
      have z2 : ((p :: t).filter fun p => decide (p.1.1 < w)) = [] := by
        rw [List.filter_cons, if_neg (by simp; omega), z]
      rw [z2, List.nil_append]
      by_cases b : p.1.1 < w'
      · rw [List.filter_cons, if_pos (decide_eq_true b), List.filter_cons, if_pos (decide_eq_true ⟨by omega, b⟩), ih']
      · rw [List.filter_cons, if_neg (by simp; omega), List.filter_cons, if_neg (by simp; omega), ih']
end bags

/-! ### classes of values -/
section classes
/-- from v up to x all are shown or none is -/
def UpTo (S : Int → Bool) (v x : Int) : Prop := ∀ y, v ≤ y → y ≤ x → S y = S v
def DnTo (S : Int → Bool) (v x : Int) : Prop := ∀ y, x ≤ y → y ≤ v → S y = S v
def IsTop (S : Int → Bool) (v : Int) : Option Int → Prop
  | some t => v ≤ t ∧ UpTo S v t ∧ S (t + 1) ≠ S v
  | none => ∀ x, v ≤ x → S x = S v
def IsBot (S : Int → Bool) (v : Int) : Option Int → Prop
  | some t => t ≤ v ∧ DnTo S v t ∧ S (t - 1) ≠ S v
  | none => ∀ x, x ≤ v → S x = S v
def SameRun (S : Int → Bool) (a b : Int) : Prop := ∀ x, (a ≤ x ∧ x ≤ b) ∨ (b ≤ x ∧ x ≤ a) → S x = S a
theorem SameRun.refl (S : Int → Bool) (a : Int) : SameRun S a a := fun x h => by
  have : x = a := by omega
  rw [this]
theorem SameRun.eq {S : Int → Bool} {a b : Int} (h : SameRun S a b) : S b = S a := h b (by omega)
theorem SameRun.symm {S : Int → Bool} {a b : Int} (h : SameRun S a b) : SameRun S b a := fun x hx => (h x (by omega)).trans h.eq.symm
theorem SameRun.sub {S : Int → Bool} {a b c : Int} (h : SameRun S a b) (hc : (a ≤ c ∧ c ≤ b) ∨ (b ≤ c ∧ c ≤ a)) : SameRun S a c := fun x hx => h x (by omega)
theorem SameRun.trans {S : Int → Bool} {a b c : Int} (h : SameRun S a b) (k : SameRun S b c) : SameRun S a c := fun x hx => by
  by_cases q : (a ≤ x ∧ x ≤ b) ∨ (b ≤ x ∧ x ≤ a)
  · exact h x q
  · exact (k x (by omega)).trans h.eq
theorem IsTop.uniq {S : Int → Bool} {v v' : Int} (h : SameRun S v v') : ∀ {r r' : Option Int}, IsTop S v r → IsTop S v' r' → r = r'
  | none, none, _, _ => rfl
  | some t, none, ⟨h1, h2, h3⟩, k => by
    exfalso
    by_cases q : v' ≤ t + 1
    · exact h3 ((k _ q).trans h.eq)
    · exact h3 (h _ (by omega))
  | none, some t, k, ⟨h1, h2, h3⟩ => by
    exfalso
    by_cases q : v ≤ t + 1
    · exact h3 ((k _ q).trans h.eq.symm)
    · exact h3 (h.symm _ (by omega))
  | some t, some t', ⟨h1, h2, h3⟩, ⟨k1, k2, k3⟩ => by
    have e : S v' = S v := h.eq
    rcases Int.lt_trichotomy t t' with q | q | q
    · exfalso
      by_cases z : v' ≤ t + 1
      · exact h3 ((k2 _ z (by omega)).trans e)
      · exact h3 (h _ (by omega))
    · rw [q]
    · exfalso
      by_cases z : v ≤ t' + 1
      · exact k3 ((h2 _ z (by omega)).trans e.symm)
      · exact k3 (h.symm _ (by omega))
theorem IsBot.uniq {S : Int → Bool} {v v' : Int} (h : SameRun S v v') : ∀ {r r' : Option Int}, IsBot S v r → IsBot S v' r' → r = r'
  | none, none, _, _ => rfl
  | some t, none, ⟨h1, h2, h3⟩, k => by
    exfalso
    by_cases q : t - 1 ≤ v'
    · exact h3 ((k _ q).trans h.eq)
    · exact h3 (h _ (by omega))
  | none, some t, k, ⟨h1, h2, h3⟩ => by
    exfalso
    by_cases q : t - 1 ≤ v
    · exact h3 ((k _ q).trans h.eq.symm)
    · exact h3 (h.symm _ (by omega))
  | some t, some t', ⟨h1, h2, h3⟩, ⟨k1, k2, k3⟩ => by
    have e : S v' = S v := h.eq
    rcases Int.lt_trichotomy t t' with q | q | q
    · exfalso
      by_cases z : t' - 1 ≤ v
      · exact k3 ((h2 _ (by omega) z).trans e.symm)
      · exact k3 (h.symm _ (by omega))
    · rw [q]
    · exfalso
      by_cases z : t - 1 ≤ v'
      · exact h3 ((k2 _ (by omega) z).trans e)
      · exact h3 (h _ (by omega))
theorem top_or {S : Int → Bool} {v : Int} : ∀ n : Nat, UpTo S v (v + n) ∨ ∃ t, IsTop S v (some t)
  | 0 => .inl fun y h1 h2 => by
    have : y = v := by omega
    rw [this]
  | n + 1 => by
    rcases top_or (S := S) (v := v) n with h | h
    · by_cases e : S (v + n + 1) = S v
      · refine .inl fun y h1 h2 => ?_
        by_cases q : y ≤ v + n
        · exact h y h1 q
        · have : y = v + n + 1 := by omega
          rw [this, e]
      · exact .inr ⟨v + n, by omega, h, e⟩
    · exact .inr h
theorem bot_or {S : Int → Bool} {v : Int} : ∀ n : Nat, DnTo S v (v - n) ∨ ∃ t, IsBot S v (some t)
  | 0 => .inl fun y h1 h2 => by
    have : y = v := by omega
    rw [this]
  | n + 1 => by
    rcases bot_or (S := S) (v := v) n with h | h
    · by_cases e : S (v - n - 1) = S v
      · refine .inl fun y h1 h2 => ?_
        by_cases q : v - n ≤ y
        · exact h y q h2
        · have : y = v - n - 1 := by omega
          rw [this, e]
      · exact .inr ⟨v - n, by omega, h, e⟩
    · exact .inr h
theorem top_ex (S : Int → Bool) (v : Int) : ∃ r, IsTop S v r := by
  by_cases h : ∃ t, IsTop S v (some t)
  · exact let ⟨t, q⟩ := h; ⟨some t, q⟩
  · refine ⟨none, fun x hx => ?_⟩
    have q := (top_or (S := S) (v := v) (x - v).toNat).resolve_right h
    exact q x hx (by omega)
theorem bot_ex (S : Int → Bool) (v : Int) : ∃ r, IsBot S v r := by
  by_cases h : ∃ t, IsBot S v (some t)
  · exact let ⟨t, q⟩ := h; ⟨some t, q⟩
  · refine ⟨none, fun x hx => ?_⟩
    have q := (bot_or (S := S) (v := v) (v - x).toNat).resolve_right h
    exact q x (by omega) hx
noncomputable def topOf (S : Int → Bool) (v : Int) : Option Int := Classical.choose (top_ex S v)
noncomputable def botOf (S : Int → Bool) (v : Int) : Option Int := Classical.choose (bot_ex S v)
theorem topOf_is (S : Int → Bool) (v : Int) : IsTop S v (topOf S v) := Classical.choose_spec (top_ex S v)
theorem botOf_is (S : Int → Bool) (v : Int) : IsBot S v (botOf S v) := Classical.choose_spec (bot_ex S v)
theorem topOf_eq {S : Int → Bool} {v : Int} {r : Option Int} (h : IsTop S v r) : topOf S v = r := (topOf_is S v).uniq (.refl S v) h
theorem botOf_eq {S : Int → Bool} {v : Int} {r : Option Int} (h : IsBot S v r) : botOf S v = r := (botOf_is S v).uniq (.refl S v) h
theorem topOf_run {S : Int → Bool} {v v' : Int} (h : SameRun S v v') : topOf S v = topOf S v' := (topOf_is S v).uniq h (topOf_is S v')
theorem botOf_run {S : Int → Bool} {v v' : Int} (h : SameRun S v v') : botOf S v = botOf S v' := (botOf_is S v).uniq h (botOf_is S v')
/-- the class, by the first and the last choice -/
def classOf (fac : Int) (s : Bool) (v : Int) (first last : Option Int) : Option Int :=
  if fac ≠ 0 ∧ s = true then some v else match first with
    | some f => some f
    | none => if s = true then some (last.getD 0) else none
noncomputable def clsA (fac : Int) (S : Int → Bool) (v : Int) : Option Int := classOf fac (S v) v (topOf S v) (botOf S v)
noncomputable def clsB (fac : Int) (S : Int → Bool) (v : Int) : Option Int := classOf fac (S v) v (botOf S v) (topOf S v)
theorem up_run {S : Int → Bool} {v t : Int} (h : v ≤ t) (u : UpTo S v t) : SameRun S v t := fun x hx => u x (by omega) (by omega)
theorem dn_run {S : Int → Bool} {v t : Int} (h : t ≤ v) (u : DnTo S v t) : SameRun S v t := fun x hx => u x (by omega) (by omega)
theorem top_run {S : Int → Bool} {v t : Int} (h : topOf S v = some t) : SameRun S v t := by
  have q := topOf_is S v
  rw [h] at q
  exact up_run q.1 q.2.1
theorem bot_run {S : Int → Bool} {v t : Int} (h : botOf S v = some t) : SameRun S v t := by
  have q := botOf_is S v
  rw [h] at q
  exact dn_run q.1 q.2.1
theorem all_run {S : Int → Bool} {v : Int} (h1 : topOf S v = none) (h2 : botOf S v = none) (x : Int) : SameRun S v x := fun y _ => by
  have q1 := topOf_is S v
  have q2 := botOf_is S v
  rw [h1] at q1
  rw [h2] at q2
  rcases Int.le_total v y with z | z
  · exact q1 y z
  · exact q2 y z
/-- a class is one of its run, or the value itself -/
theorem clsA_run {fac : Int} {S : Int → Bool} {v u : Int} (h : clsA fac S v = some u) : u = v ∨ (¬ (fac ≠ 0 ∧ S v = true) ∧ SameRun S v u) := by
  unfold clsA classOf at h
  by_cases c : fac ≠ 0 ∧ S v = true
  · rw [if_pos c] at h
    exact .inl (Option.some.inj h).symm
  · rw [if_neg c] at h
    refine .inr ⟨c, ?_⟩
    cases ht : topOf S v with
    | some t =>
      rw [ht] at h
      cases h
      exact top_run ht
    | none =>
      rw [ht] at h
      dsimp only at h
      by_cases s : S v = true
      · rw [if_pos s] at h
        cases hb : botOf S v with
        | some b =>
          rw [hb] at h
          cases h
          exact bot_run hb
        | none => exact all_run ht hb _
      · rw [if_neg s] at h
        cases h
theorem clsB_run {fac : Int} {S : Int → Bool} {v u : Int} (h : clsB fac S v = some u) : u = v ∨ (¬ (fac ≠ 0 ∧ S v = true) ∧ SameRun S v u) := by
  unfold clsB classOf at h
  by_cases c : fac ≠ 0 ∧ S v = true
  · rw [if_pos c] at h
    exact .inl (Option.some.inj h).symm
  · rw [if_neg c] at h
    refine .inr ⟨c, ?_⟩
    cases ht : botOf S v with
    | some t =>
      rw [ht] at h
      cases h
      exact bot_run ht
    | none =>
      rw [ht] at h
      dsimp only at h
      by_cases s : S v = true
      · rw [if_pos s] at h
        cases hb : topOf S v with
        | some b =>
          rw [hb] at h
          cases h
          exact top_run hb
        | none => exact all_run hb ht _
      · rw [if_neg s] at h
        cases h
theorem clsA_same {fac : Int} {S : Int → Bool} {a b : Int} (c : ¬ (fac ≠ 0 ∧ S a = true)) (h : SameRun S a b) : clsA fac S a = clsA fac S b := by
  have e := h.eq
  unfold clsA classOf
  rw [e, topOf_run h, botOf_run h, if_neg c, if_neg c]
theorem clsB_same {fac : Int} {S : Int → Bool} {a b : Int} (c : ¬ (fac ≠ 0 ∧ S a = true)) (h : SameRun S a b) : clsB fac S a = clsB fac S b := by
  have e := h.eq
  unfold clsB classOf
  rw [e, topOf_run h, botOf_run h, if_neg c, if_neg c]
/-- what is asked of a class: it may stand for the value -/
structure Cls (mn : Int → Int → Int) (cls : Int → Option Int) : Prop where
  idem : ∀ v u, cls v = some u → cls u = some u
  some : ∀ v u x, cls v = some u → cls (mn u x) = cls (mn v x)
  none : ∀ v x, cls v = none → cls (mn v x) = cls x
theorem cls_least (fac : Int) (S : Int → Bool) : Cls (fun a b => min a b) (clsA fac S) where
  idem := fun v u h => by
    rcases clsA_run h with e | ⟨c, r⟩
    · rw [e]; rw [e] at h; exact h
    · rw [← clsA_same c r]; exact h
  some := fun v u x h => by
    rcases clsA_run h with e | ⟨c, r⟩
    · rw [e]
    · by_cases q : SameRun S v x
      · have h1 : SameRun S v (min u x) := by
          rcases Int.le_total u x with z | z
          · rw [Int.min_eq_left z]; exact r
          · rw [Int.min_eq_right z]; exact q
        have h2 : SameRun S v (min v x) := by
          rcases Int.le_total v x with z | z
          · rw [Int.min_eq_left z]; exact .refl S v
          · rw [Int.min_eq_right z]; exact q
        rw [← clsA_same c h1, clsA_same c h2]
      · by_cases z : v ≤ x
        · have z2 : u ≤ x := by
            apply Classical.byContradiction
            intro z3
            exact q (r.sub (by omega))
          rw [Int.min_eq_left z, Int.min_eq_left z2, clsA_same c r]
        · have z2 : x ≤ u := by
            apply Classical.byContradiction
            intro z3
            exact q (r.sub (by omega))
          rw [Int.min_eq_right z2, Int.min_eq_right (by omega)]
  none := fun v x h => by
    have key : topOf S v = none ∧ S v = false := by
      unfold clsA classOf at h
      split at h
      · cases h
      · cases ht : topOf S v with
        | some t => rw [ht] at h; cases h
        | none =>
          rw [ht] at h
          dsimp only at h
          split at h
          · cases h
          · exact ⟨rfl, by simpa using ‹¬ S v = true›⟩
    obtain ⟨k1, k2⟩ := key
    have up := topOf_is S v
    rw [k1] at up
    rcases Int.le_total v x with z | z
    · rw [Int.min_eq_left z]
      exact clsA_same (by rw [k2]; simp) fun y hy => up y (by omega)
    · rw [Int.min_eq_right z]
theorem cls_greatest (fac : Int) (S : Int → Bool) : Cls (fun a b => max a b) (clsB fac S) where
  idem := fun v u h => by
    rcases clsB_run h with e | ⟨c, r⟩
    · rw [e]; rw [e] at h; exact h
    · rw [← clsB_same c r]; exact h
  some := fun v u x h => by
    rcases clsB_run h with e | ⟨c, r⟩
    · rw [e]
    · by_cases q : SameRun S v x
      · have h1 : SameRun S v (max u x) := by
          rcases Int.le_total u x with z | z
          · rw [Int.max_eq_right z]; exact q
          · rw [Int.max_eq_left z]; exact r
        have h2 : SameRun S v (max v x) := by
          rcases Int.le_total v x with z | z
          · rw [Int.max_eq_right z]; exact q
          · rw [Int.max_eq_left z]; exact .refl S v
        rw [← clsB_same c h1, clsB_same c h2]
      · by_cases z : x ≤ v
        · have z2 : x ≤ u := by
            apply Classical.byContradiction
            intro z3
            exact q (r.sub (by omega))
          rw [Int.max_eq_left z, Int.max_eq_left z2, clsB_same c r]
        · have z2 : u ≤ x := by
            apply Classical.byContradiction
            intro z3
            exact q (r.sub (by omega))
          rw [Int.max_eq_right z2, Int.max_eq_right (by omega)]
  none := fun v x h => by
    have key : botOf S v = none ∧ S v = false := by
      unfold clsB classOf at h
      split at h
      · cases h
      · cases ht : botOf S v with
        | some t => rw [ht] at h; cases h
        | none =>
          rw [ht] at h
          dsimp only at h
          split at h
          · cases h
          · exact ⟨rfl, by simpa using ‹¬ S v = true›⟩
    obtain ⟨k1, k2⟩ := key
    have up := botOf_is S v
    rw [k1] at up
    rcases Int.le_total v x with z | z
    · rw [Int.max_eq_right z]
    · rw [Int.max_eq_left z]
      exact clsB_same (by rw [k2]; simp) fun y hy => up y (by omega)
end classes

/-! ### sittings -/
section sittings
/-- a row of a key: time, value, count -/
abbrev Pt := Int × Int × Int
def num : List Pt → Int
  | [] => 0
  | p :: t => p.2.2 + num t
def tot : List Pt → Int
  | [] => 0
  | p :: t => p.2.1 * p.2.2 + tot t
theorem num_append (a b : List Pt) : num (a ++ b) = num a + num b := by
  induction a with
  | nil => rw [List.nil_append]; show num b = 0 + num b; omega
  | cons p t ih => rw [List.cons_append]; show p.2.2 + num (t ++ b) = p.2.2 + num t + num b; omega
theorem tot_append (a b : List Pt) : tot (a ++ b) = tot a + tot b := by
  induction a with
  | nil => rw [List.nil_append]; show tot b = 0 + tot b; omega
  | cons p t ih => rw [List.cons_append]; show p.2.1 * p.2.2 + tot (t ++ b) = p.2.1 * p.2.2 + tot t + tot b; omega
theorem num_pos {a : List Pt} (h : ∀ p ∈ a, 0 < p.2.2) : 0 ≤ num a ∧ (a ≠ [] → 0 < num a) := by
  induction a with
  | nil => exact ⟨Int.le_refl _, fun z => absurd rfl z⟩
  | cons p t ih =>
    have h1 := h p (List.mem_cons_self ..)
    have h2 := (ih fun q hq => h q (List.mem_cons_of_mem _ hq)).1
    have e : num (p :: t) = p.2.2 + num t := rfl
    exact ⟨by omega, fun _ => by omega⟩
/-- the least (greatest) value -/
def ext (mn : Int → Int → Int) : List Pt → Int
  | [] => 0
  | [p] => p.2.1
  | p :: q :: t => mn p.2.1 (ext mn (q :: t))
theorem ext_append {mn : Int → Int → Int} (as : ∀ x y z, mn (mn x y) z = mn x (mn y z)) : ∀ {a b : List Pt}, a ≠ [] → b ≠ [] → ext mn (a ++ b) = mn (ext mn a) (ext mn b)
  | [], _, h, _ => absurd rfl h
  | [p], [], _, h => absurd rfl h
  | [p], q :: b, _, _ => rfl
  | p :: q :: a, b, _, h => by
    have ih := ext_append as (a := q :: a) (b := b) (List.cons_ne_nil _ _) h
    show mn p.2.1 (ext mn (q :: a ++ b)) = mn (mn p.2.1 (ext mn (q :: a))) (ext mn b)
    rw [ih, as]
theorem ext_cons {mn : Int → Int → Int} {p : Pt} {b : List Pt} (h : b ≠ []) : ext mn (p :: b) = mn p.2.1 (ext mn b) := by
  match b, h with
  | q :: b, _ => rfl
/-- the rows of the last sitting -/
def lastSit (gap : Int) : List Pt → List Pt
  | [] => []
  | [p] => [p]
  | p :: q :: t => if lastSit gap (q :: t) = q :: t ∧ q.1 - p.1 ≤ gap then p :: q :: t else lastSit gap (q :: t)
theorem lastSit_ne (gap : Int) : ∀ {l : List Pt}, l ≠ [] → lastSit gap l ≠ []
  | [], h => absurd rfl h
  | [p], _ => List.cons_ne_nil _ _
  | p :: q :: t, _ => by
    have ih := lastSit_ne gap (l := q :: t) (List.cons_ne_nil _ _)
    unfold lastSit
    split
    · exact List.cons_ne_nil _ _
    · exact ih
theorem lastSit_sub (gap : Int) : ∀ {l : List Pt}, ∀ p ∈ lastSit gap l, p ∈ l
  | [], p, h => by simp [lastSit] at h
  | [q], p, h => h
  | q :: r :: t, p, h => by
    have ih := lastSit_sub gap (l := r :: t)
    unfold lastSit at h
    split at h
    · exact h
    · exact List.mem_cons_of_mem _ (ih p h)
theorem lastSit_len (gap : Int) : ∀ (l : List Pt), (lastSit gap l).length ≤ l.length
  | [] => Nat.le_refl _
  | [q] => Nat.le_refl _
  | q :: r :: t => by
    have ih := lastSit_len gap (r :: t)
    unfold lastSit
    split
    · exact Nat.le_refl _
    · exact Nat.le_succ_of_le ih
/-- F's last row joins M's sitting -/
def Joins (gap : Int) (F M : List Pt) : Prop := lastSit gap M = M ∧ ∀ p q, F.getLast? = some p → M.head? = some q → q.1 - p.1 ≤ gap
theorem lastSit_join {gap : Int} : ∀ {F M : List Pt}, F ≠ [] → M ≠ [] → Joins gap F M → lastSit gap (F ++ M) = lastSit gap F ++ M
  | [], _, h, _, _ => absurd rfl h
  | [p], [], _, h, _ => absurd rfl h
  | [p], q :: M, _, _, ⟨j1, j2⟩ => by
    have h := j2 p q rfl rfl
    show lastSit gap (p :: q :: M) = [p] ++ q :: M
    unfold lastSit
    rw [if_pos ⟨j1, h⟩]
    rfl
  | p :: r :: F, M, _, hM, j => by
    have ih := lastSit_join (gap := gap) (F := r :: F) (M := M) (List.cons_ne_nil _ _) hM ⟨j.1, fun a b ha hb => j.2 a b (by rw [List.getLast?_cons_cons]; exact ha) hb⟩
    show lastSit gap (p :: r :: (F ++ M)) = lastSit gap (p :: r :: F) ++ M
    have ih' : lastSit gap (r :: (F ++ M)) = lastSit gap (r :: F) ++ M := ih
    unfold lastSit
    rw [ih']
    by_cases c : lastSit gap (r :: F) = r :: F ∧ r.1 - p.1 ≤ gap
    · rw [if_pos c, if_pos ⟨by rw [c.1]; rfl, c.2⟩]
      rfl
    · have c' : ¬ (lastSit gap (r :: F) ++ M = r :: (F ++ M) ∧ r.1 - p.1 ≤ gap) := fun z => c ⟨List.append_cancel_right (z.1.trans (List.cons_append (a := r) (as := F) (bs := M)).symm), z.2⟩
      rw [if_neg c, if_neg c']
theorem lastSit_part {gap : Int} : ∀ {F M : List Pt}, M ≠ [] → ¬ Joins gap F M → (F ≠ [] → lastSit gap (F ++ M) = lastSit gap M)
  | [], _, _, _, h => absurd rfl h
  | [p], [], h, _, _ => absurd rfl h
  | [p], q :: M, _, nj, _ => by
    show lastSit gap (p :: q :: M) = lastSit gap (q :: M)
    rw [lastSit, if_neg]
    intro z
    refine nj ⟨z.1, fun a b ha hb => ?_⟩
    cases ha
    cases hb
    exact z.2
  | p :: r :: F, M, hM, nj, _ => by
    have ih := lastSit_part (gap := gap) (F := r :: F) (M := M) hM (fun j => nj ⟨j.1, fun a b ha hb => j.2 a b (by rw [← List.getLast?_cons_cons (a := p)]; exact ha) hb⟩) (List.cons_ne_nil _ _)
    show lastSit gap (p :: r :: (F ++ M)) = lastSit gap M
    have ih' : lastSit gap (r :: (F ++ M)) = lastSit gap M := ih
    rw [lastSit, ih', if_neg]
    intro z
    have h1 := lastSit_len gap M
    rw [z.1, List.length_cons, List.length_append] at h1
    omega
/-- what the loop of last_sitting finds -/
theorem lastSit_drop {gap : Int} : ∀ {l : List Pt} {f : Nat}, f < l.length → (∀ j p q, f ≤ j → l[j]? = some p → l[j + 1]? = some q → q.1 - p.1 ≤ gap) → (∀ p q, 0 < f → l[f - 1]? = some p → l[f]? = some q → gap < q.1 - p.1) → l.drop f = lastSit gap l
  | [], f, h, _, _ => absurd h (Nat.not_lt_zero _)
  | [p], 0, _, _, _ => rfl
  | [p], f + 1, h, _, _ => absurd h (by simp)
  | p :: q :: t, 0, _, h1, _ => by
    have ih := lastSit_drop (gap := gap) (l := q :: t) (f := 0) (by simp) (fun j a b _ ha hb => h1 (j + 1) a b (Nat.zero_le _) ha hb) (fun a b z => absurd z (Nat.lt_irrefl _))
    have ih' : lastSit gap (q :: t) = q :: t := ih.symm
    show p :: q :: t = lastSit gap (p :: q :: t)
    rw [lastSit, if_pos ⟨ih', h1 0 p q (Nat.le_refl _) rfl rfl⟩]
  | p :: q :: t, 1, h, h1, h2 => by
    have ih := lastSit_drop (gap := gap) (l := q :: t) (f := 0) (by simp) (fun j a b hj ha hb => h1 (j + 1) a b (by omega) ha hb) (fun a b z => absurd z (Nat.lt_irrefl _))
    have ih' : lastSit gap (q :: t) = q :: t := ih.symm
    show q :: t = lastSit gap (p :: q :: t)
    have h3 := h2 p q (by omega) rfl rfl
    rw [lastSit, if_neg (fun z => by have := z.2; omega), ih']
  | p :: q :: t, f + 2, h, h1, h2 => by
    have ih := lastSit_drop (gap := gap) (l := q :: t) (f := f + 1) (by simpa using h) (fun j a b hj ha hb => h1 (j + 1) a b (by omega) ha hb) (fun a b z ha hb => h2 a b (by omega) ha hb)
    show (q :: t).drop (f + 1) = lastSit gap (p :: q :: t)
    rw [lastSit, if_neg, ih]
    intro z
    have hl := congrArg List.length ih
    rw [z.1, List.length_drop] at hl
    have : (q :: t).length = t.length + 1 := rfl
    have : (p :: q :: t).length = t.length + 2 := rfl
    omega
/-- what is kept of a sitting: a value and a count. The four ways. -/
inductive Ag | count | sum | least | greatest
  deriving DecidableEq
/-- of a show: S, the factor, the count limit, whether all are shown -/
structure Sw where
  S : Int → Bool
  fac : Int
  lim : Option Int
  all : Bool
def limit (lim : Option Int) (n : Int) : Int := match lim with
  | none => n
  | some t => min t n
noncomputable def aggV (w : Sw) : Ag → List Pt → Option (Int × Int)
  | .count, l => if 0 < limit w.lim (num l) then some (0, limit w.lim (num l)) else none
  | .sum, l => if w.fac = 0 ∧ w.all = true then some (0, 1) else if tot l ≠ 0 ∨ w.S 0 = true then some (tot l, 1) else none
  | .least, l => (clsA w.fac w.S (ext (fun a b => min a b) l)).map fun c => (c, 1)
  | .greatest, l => (clsB w.fac w.S (ext (fun a b => max a b) l)).map fun c => (c, 1)
def rowOf (l : Int) : Option (Int × Int) → List Pt
  | none => []
  | some v => [(l, v.1, v.2)]
theorem aggV_pos {w : Sw} {g : Ag} {l : List Pt} {v : Int × Int} (h : aggV w g l = some v) : 0 < v.2 := by
  cases g with
  | count =>
    have h' : (if 0 < limit w.lim (num l) then some ((0 : Int), limit w.lim (num l)) else none) = some v := h
    split at h'
    · cases h'; assumption
    · cases h'
  | sum =>
    have h' : (if w.fac = 0 ∧ w.all = true then some ((0 : Int), (1 : Int)) else if tot l ≠ 0 ∨ w.S 0 = true then some (tot l, 1) else none) = some v := h
    split at h'
    · cases h'; exact Int.zero_lt_one
    · split at h'
      · cases h'; exact Int.zero_lt_one
      · cases h'
  | least =>
    obtain ⟨c, _, e⟩ := Option.map_eq_some_iff.mp h
    subst e
    exact Int.zero_lt_one
  | greatest =>
    obtain ⟨c, _, e⟩ := Option.map_eq_some_iff.mp h
    subst e
    exact Int.zero_lt_one
/-- extremes: the kept row stands for the sitting -/
theorem ext_keep {mn : Int → Int → Int} {cls : Int → Option Int} (C : Cls mn cls) (as : ∀ x y z, mn (mn x y) z = mn x (mn y z)) {l : Int} {A M : List Pt} (hA : A ≠ []) (hM : M ≠ []) :
    cls (ext mn (rowOf l ((cls (ext mn A)).map fun c => (c, 1)) ++ M)) = cls (ext mn (A ++ M)) := by
  rw [ext_append as hA hM]
  cases h : cls (ext mn A) with
  | none => exact (C.none _ _ h).symm
  | some u =>
    show cls (ext mn ((l, u, 1) :: M)) = _
    rw [ext_cons hM]
    exact C.some _ _ _ h
theorem limit_add {lim : Option Int} {a b : Int} (hb : 0 ≤ b) : limit lim (limit lim a + b) = limit lim (a + b) := by
  cases lim with
  | none => rfl
  | some t => show min t (min t a + b) = min t (a + b); omega
theorem agg_keep {w : Sw} (hT : ∀ t, w.lim = some t → 0 ≤ t) {g : Ag} {l : Int} {A M : List Pt} (hA : A ≠ []) (hM : M ≠ []) (pA : ∀ p ∈ A, 0 < p.2.2) (pM : ∀ p ∈ M, 0 < p.2.2) : aggV w g (rowOf l (aggV w g A) ++ M) = aggV w g (A ++ M) := by
  cases g with
  | count =>
    have n1 := (num_pos pA).2 hA
    have n2 := (num_pos pM).1
    have key : limit w.lim (num (rowOf l (aggV w .count A) ++ M)) = limit w.lim (num (A ++ M)) := by
      rw [num_append, num_append]
      by_cases c : 0 < limit w.lim (num A)
      · have e : num (rowOf l (aggV w .count A)) = limit w.lim (num A) := by
          show num (rowOf l (if 0 < limit w.lim (num A) then some (0, limit w.lim (num A)) else none)) = _
          rw [if_pos c]
          show limit w.lim (num A) + 0 = _
          omega
        rw [e, limit_add n2]
      · have e : num (rowOf l (aggV w .count A)) = 0 := by
          show num (rowOf l (if 0 < limit w.lim (num A) then some (0, limit w.lim (num A)) else none)) = _
          rw [if_neg c]
          rfl
        rw [e]
        cases hl : w.lim with
        | none => rw [hl] at c; exact absurd n1 c
        | some t =>
          rw [hl] at c
          have c' : ¬ 0 < min t (num A) := c
          have := hT t hl
          show min t (0 + num M) = min t (num A + num M)
          omega
    show (if 0 < limit w.lim (num (rowOf l (aggV w .count A) ++ M)) then some ((0 : Int), limit w.lim (num (rowOf l (aggV w .count A) ++ M))) else none) = _
    rw [key]
    rfl
  | sum =>
    by_cases c : w.fac = 0 ∧ w.all = true
    · show (if w.fac = 0 ∧ w.all = true then some ((0 : Int), (1 : Int)) else _) = (if w.fac = 0 ∧ w.all = true then some ((0 : Int), (1 : Int)) else _)
      rw [if_pos c, if_pos c]
    · have key : tot (rowOf l (aggV w .sum A) ++ M) = tot (A ++ M) := by
        rw [tot_append, tot_append]
        have e : tot (rowOf l (aggV w .sum A)) = tot A := by
          show tot (rowOf l (if w.fac = 0 ∧ w.all = true then some ((0 : Int), (1 : Int)) else if tot A ≠ 0 ∨ w.S 0 = true then some (tot A, 1) else none)) = _
          rw [if_neg c]
          by_cases d : tot A ≠ 0 ∨ w.S 0 = true
          · rw [if_pos d]
            show tot A * 1 + 0 = tot A
            omega
          · rw [if_neg d]
            show (0 : Int) = tot A
            omega
        rw [e]
      show (if w.fac = 0 ∧ w.all = true then some ((0 : Int), (1 : Int)) else if tot (rowOf l (aggV w .sum A) ++ M) ≠ 0 ∨ w.S 0 = true then some (tot (rowOf l (aggV w .sum A) ++ M), (1 : Int)) else none) = _
      rw [key]
      rfl
  | least =>
    show (clsA w.fac w.S (ext (fun a b => min a b) (rowOf l ((clsA w.fac w.S (ext (fun a b => min a b) A)).map fun c => (c, 1)) ++ M))).map _ = _
    rw [ext_keep (cls_least w.fac w.S) (fun x y z => by omega) hA hM]
    rfl
  | greatest =>
    show (clsB w.fac w.S (ext (fun a b => max a b) (rowOf l ((clsB w.fac w.S (ext (fun a b => max a b) A)).map fun c => (c, 1)) ++ M))).map _ = _
    rw [ext_keep (cls_greatest w.fac w.S) (fun x y z => by omega) hA hM]
    rfl
/-- and alone -/
theorem agg_idem {w : Sw} (hT : ∀ t, w.lim = some t → 0 ≤ t) {g : Ag} {l : Int} {A : List Pt} {v : Int × Int} (h : aggV w g A = some v) : aggV w g [(l, v.1, v.2)] = some v := by
  cases g with
  | count =>
    have h' : (if 0 < limit w.lim (num A) then some ((0 : Int), limit w.lim (num A)) else none) = some v := h
    split at h'
    · cases h'
      have e : limit w.lim (num [((l : Int), (0 : Int), limit w.lim (num A))]) = limit w.lim (num A) := by
        have := limit_add (lim := w.lim) (a := num A) (b := 0) (Int.le_refl _)
        rw [Int.add_zero, Int.add_zero] at this
        show limit w.lim (limit w.lim (num A) + 0) = _
        rw [Int.add_zero]
        exact this
      show (if 0 < limit w.lim (num [((l : Int), (0 : Int), limit w.lim (num A))]) then some ((0 : Int), limit w.lim (num [((l : Int), (0 : Int), limit w.lim (num A))])) else none) = _
      rw [e, if_pos (by assumption)]
    · cases h'
  | sum =>
    have h' : (if w.fac = 0 ∧ w.all = true then some ((0 : Int), (1 : Int)) else if tot A ≠ 0 ∨ w.S 0 = true then some (tot A, 1) else none) = some v := h
    by_cases c : w.fac = 0 ∧ w.all = true
    · rw [if_pos c] at h'
      cases h'
      show (if w.fac = 0 ∧ w.all = true then some ((0 : Int), (1 : Int)) else _) = _
      rw [if_pos c]
    · rw [if_neg c] at h'
      by_cases d : tot A ≠ 0 ∨ w.S 0 = true
      · rw [if_pos d] at h'
        cases h'
        have e : tot [((l : Int), tot A, (1 : Int))] = tot A := by
          show tot A * 1 + 0 = tot A
          omega
        show (if w.fac = 0 ∧ w.all = true then some ((0 : Int), (1 : Int)) else if tot [((l : Int), tot A, (1 : Int))] ≠ 0 ∨ w.S 0 = true then some (tot [((l : Int), tot A, (1 : Int))], (1 : Int)) else none) = _
        rw [if_neg c, e, if_pos d]
      · rw [if_neg d] at h'
        cases h'
  | least =>
    obtain ⟨c, hc, e⟩ := Option.map_eq_some_iff.mp h
    subst e
    show (clsA w.fac w.S c).map _ = _
    rw [(cls_least w.fac w.S).idem _ _ hc]
    rfl
  | greatest =>
    obtain ⟨c, hc, e⟩ := Option.map_eq_some_iff.mp h
    subst e
    show (clsB w.fac w.S c).map _ = _
    rw [(cls_greatest w.fac w.S).idem _ _ hc]
    rfl
/-- what is kept of the final rows of a key -/
noncomputable def keepG (s : Sw) (g : Ag) (gap w : Int) (l : List Pt) : List Pt := match l.getLast? with
  | none => []
  | some p => if w ≤ p.1 + gap then rowOf p.1 (aggV s g (lastSit gap l)) else []
theorem keepG_nil {s : Sw} {g : Ag} {gap w : Int} : keepG s g gap w [] = [] := rfl
theorem keepG_last {s : Sw} {g : Ag} {gap w : Int} {l : List Pt} {p : Pt} (h : l.getLast? = some p) : keepG s g gap w l = if w ≤ p.1 + gap then rowOf p.1 (aggV s g (lastSit gap l)) else [] := by
  unfold keepG
  rw [h]
theorem keepG_of {s : Sw} {g : Ag} {gap w : Int} {l : List Pt} {q : Pt} (h : q ∈ keepG s g gap w l) : ∃ p v, l.getLast? = some p ∧ keepG s g gap w l = [(p.1, v)] ∧ 0 < v.2 := by
  cases hl : l.getLast? with
  | none => unfold keepG at h; rw [hl] at h; simp at h
  | some p =>
    rw [keepG_last hl] at h ⊢
    by_cases c : w ≤ p.1 + gap
    · rw [if_pos c] at h ⊢
      cases ha : aggV s g (lastSit gap l) with
      | none => rw [ha] at h; simp [rowOf] at h
      | some v => exact ⟨p, v, rfl, rfl, aggV_pos ha⟩
    · rw [if_neg c] at h
      simp at h
theorem keep_on {s : Sw} (hT : ∀ t, s.lim = some t → 0 ≤ t) {g : Ag} {gap w w' : Int} (hw : w ≤ w') {F M : List Pt} (hM : ∀ p ∈ M, w ≤ p.1) (pF : ∀ p ∈ F, 0 < p.2.2) (pM : ∀ p ∈ M, 0 < p.2.2) :
    keepG s g gap w' (keepG s g gap w F ++ M) = keepG s g gap w' (F ++ M) := by
  cases hF : F.getLast? with
  | none =>
    have : F = [] := List.getLast?_eq_none_iff.mp hF
    subst this
    rfl
  | some p =>
    have F0 : F ≠ [] := fun z => by rw [z] at hF; cases hF
    have pS : ∀ q ∈ lastSit gap F, 0 < q.2.2 := fun q hq => pF q (lastSit_sub gap q hq)
    have S0 := lastSit_ne gap F0
    by_cases M0 : M = []
    · subst M0
      rw [List.append_nil, List.append_nil, keepG_last hF]
      by_cases c : w ≤ p.1 + gap
      · rw [if_pos c, keepG_last hF]
        cases ha : aggV s g (lastSit gap F) with
        | none => rw [show keepG s g gap w' (rowOf p.1 none) = [] from rfl]; split <;> rfl
        | some v =>
          rw [keepG_last (l := rowOf p.1 (some v)) (p := (p.1, v.1, v.2)) rfl]
          show (if w' ≤ p.1 + gap then rowOf p.1 (aggV s g [(p.1, v.1, v.2)]) else []) = _
          rw [agg_idem hT ha]
      · rw [if_neg c, keepG_last hF, if_neg (by omega)]
        rfl
    · obtain ⟨m, hm⟩ : ∃ m, M.getLast? = some m := by
        cases h : M.getLast? with
        | none => exact absurd (List.getLast?_eq_none_iff.mp h) M0
        | some m => exact ⟨m, rfl⟩
      have l1 : (F ++ M).getLast? = some m := by rw [List.getLast?_append, hm]; rfl
      have l2 : (keepG s g gap w F ++ M).getLast? = some m := by rw [List.getLast?_append, hm]; rfl
      rw [keepG_last l1, keepG_last l2]
      suffices h : aggV s g (lastSit gap (keepG s g gap w F ++ M)) = aggV s g (lastSit gap (F ++ M)) by rw [h]
      by_cases j : Joins gap F M
      · rw [lastSit_join F0 M0 j]
        obtain ⟨q, hq⟩ : ∃ q, M.head? = some q := by
          match M, M0 with
          | q :: _, _ => exact ⟨q, rfl⟩
        have hj := j.2 p q hF hq
        have hqw := hM q (List.mem_of_mem_head? hq)
        rw [keepG_last hF, if_pos (by omega)]
        have e : lastSit gap (rowOf p.1 (aggV s g (lastSit gap F)) ++ M) = rowOf p.1 (aggV s g (lastSit gap F)) ++ M := by
          cases ha : aggV s g (lastSit gap F) with
          | none => exact j.1
          | some v =>
            have := lastSit_join (gap := gap) (F := [(p.1, v.1, v.2)]) (M := M) (List.cons_ne_nil _ _) M0 ⟨j.1, fun a b ha hb => by cases ha; rw [hq] at hb; cases hb; exact hj⟩
            exact this
        rw [e]
        exact agg_keep hT S0 M0 pS pM
      · rw [lastSit_part M0 j F0]
        cases hk : keepG s g gap w F with
        | nil => rfl
        | cons q t =>
          obtain ⟨p', v, h1, h2, _⟩ := keepG_of (s := s) (g := g) (gap := gap) (w := w) (l := F) (q := q) (by rw [hk]; exact List.mem_cons_self ..)
          rw [hF] at h1
          cases h1
          rw [← hk, h2]
          rw [lastSit_part M0 (fun j' => j ⟨j'.1, fun a b ha hb => by rw [hF] at ha; cases ha; exact j'.2 (p.1, v) b rfl hb⟩) (List.cons_ne_nil _ _)]
end sittings
end Td
namespace L2.K21
open PySem PySem.Spec PyProof.Rows
open TdS (RowA ltR SortedOf)
abbrev Row := TdS.Row

/-! ### the text -/
def topS (i : Nat) : Stmt := PySem.Challenge.pw_tidefold_k21_sittings_are_kept_on.main.body.getD i (.Pass ⟨0, 0, 0, 0⟩)
/-- a def of the text, as it stands behind the top -/
structure DefAt (K : PySem.W.Frag) (mg : PySem.Str → Option Value) (x : PySem.Str) (st : Stmt) (ps : List PySem.Str) where
  f : Addr
  fd : FuncData
  F : Fun K x x st f fd
  g : mg x = some (.ref f)
  b : Binds K fd ps []

/-! ### heaps -/
theorem same_new {H : Hp} {p : Addr} {o : HO} (h : H p = none) : Same H (upd H p o) := fun b u e => by
  rw [upd_ne (ne_of_none e h)]
  exact e
/-- what was made behind H0 may change -/
theorem same_upd {H0 H : Hp} {p : Addr} {o : HO} (s : Same H0 H) (h : H0 p = none) : Same H0 (upd H p o) := fun b u e => by
  rw [upd_ne (ne_of_none e h)]
  exact s _ _ e
/-- the tuples stand -/
def Tup (H H' : Hp) : Prop := ∀ b ys, H b = some (.tup ys) → H' b = some (.tup ys)
theorem Tup.refl (H : Hp) : Tup H H := fun _ _ h => h
theorem Tup.trans {H H1 H2 : Hp} (a : Tup H H1) (b : Tup H1 H2) : Tup H H2 := fun c o h => b c o (a c o h)
theorem tup_of {H H' : Hp} (s : Same H H') : Tup H H' := fun b ys e => s _ _ e
theorem tup_upd {H : Hp} {p : Addr} {o : HO} (h : ∀ ys, H p ≠ some (.tup ys)) : Tup H (upd H p o) := fun b ys e => by
  rw [upd_ne fun z => h ys (by rw [← z]; exact e)]
  exact e
theorem tup_lst {H : Hp} {p : Addr} {xs : List V} {o : HO} (h : H p = some (.lst xs)) : Tup H (upd H p o) := tup_upd fun ys e => by rw [h] at e; cases e
theorem tup_dK {H : Hp} {p : Addr} {kvs : List (Key × V)} {o : HO} (h : H p = some (.dK kvs)) : Tup H (upd H p o) := tup_upd fun ys e => by rw [h] at e; cases e
theorem tup_dT {H : Hp} {p : Addr} {kvs : List (List Key × V)} {o : HO} (h : H p = some (.dT kvs)) : Tup H (upd H p o) := tup_upd fun ys e => by rw [h] at e; cases e
theorem tup_new {H : Hp} {p : Addr} {o : HO} (h : H p = none) : Tup H (upd H p o) := tup_upd fun ys e => by rw [h] at e; cases e

/-! ### lists side by side -/
section
variable {α β : Type} {F : α → β → Prop}
theorem pair_get : ∀ {l : List α} {m : List β} {i : Nat} {x : α}, Paired F l m → l[i]? = some x → ∃ y, m[i]? = some y ∧ F x y
  | _, _, i, x, .nil, h => by simp at h
  | _, _, 0, x, .cons f _, h => by
    simp only [List.getElem?_cons_zero] at h
    cases h
    exact ⟨_, rfl, f⟩
  | _, _, i + 1, x, .cons _ t, h => by
    simp only [List.getElem?_cons_succ] at h
    exact pair_get (i := i) t h
theorem pair_got : ∀ {l : List α} {m : List β} {i : Nat} {y : β}, Paired F l m → m[i]? = some y → ∃ x, l[i]? = some x ∧ F x y
  | _, _, i, x, .nil, h => by simp at h
  | _, _, 0, x, .cons f _, h => by
    simp only [List.getElem?_cons_zero] at h
    cases h
    exact ⟨_, rfl, f⟩
  | _, _, i + 1, x, .cons _ t, h => by
    simp only [List.getElem?_cons_succ] at h
    exact pair_got (i := i) t h
theorem pair_app : ∀ {l l' : List α} {m m' : List β}, Paired F l m → Paired F l' m' → Paired F (l ++ l') (m ++ m')
  | _, _, _, _, .nil, q => q
  | _, _, _, _, .cons f t, q => .cons f (pair_app t q)
theorem pair_all : ∀ {l : List α} {m : List β}, Paired F l m → ∀ x ∈ l, ∃ y ∈ m, F x y
  | _, _, .nil, x, h => by simp at h
  | _, _, .cons f t, x, h => by
    rcases List.mem_cons.mp h with rfl | h
    · exact ⟨_, List.mem_cons_self .., f⟩
    · obtain ⟨y, hy, fy⟩ := pair_all t x h
      exact ⟨y, List.mem_cons_of_mem _ hy, fy⟩
theorem pair_map {γ : Type} {G : γ → β → Prop} (f : α → γ) (h : ∀ x y, F x y → G (f x) y) : ∀ {l : List α} {m : List β}, Paired F l m → Paired G (l.map f) m
  | _, _, .nil => .nil
  | _, _, .cons q t => .cons (h _ _ q) (pair_map f h t)
theorem pair_take {l : List α} {m : List β} (h : Paired F l m) : ∀ n, Paired F (l.take n) (m.take n) := by
  induction h with
  | nil => intro n; rw [List.take_nil, List.take_nil]; exact .nil
  | cons f t ih =>
    intro n
    cases n with
    | zero => exact .nil
    | succ n => exact .cons f (ih n)
theorem pair_drop {l : List α} {m : List β} (h : Paired F l m) : ∀ n, Paired F (l.drop n) (m.drop n) := by
  induction h with
  | nil => intro n; rw [List.drop_nil, List.drop_nil]; exact .nil
  | cons f t ih =>
    intro n
    cases n with
    | zero => exact .cons f t
    | succ n => exact ih n
end
theorem take_snoc {α : Type} {l : List α} {i : Nat} {y : α} (h : l[i]? = some y) : l.take (i + 1) = l.take i ++ [y] := by
  rw [List.take_add_one, h]
  rfl
theorem split_at {α : Type} {l : List α} {i : Nat} {y : α} (h : l[i]? = some y) : l = l.take i ++ y :: l.drop (i + 1) := by
  have hi := (List.getElem?_eq_some_iff.mp h).1
  have e := (List.getElem?_eq_some_iff.mp h).2
  have q := List.drop_eq_getElem_cons hi
  rw [e] at q
  rw [← q, List.take_append_drop]

theorem pmap {α β : Type} {F G : α → β → Prop} {l : List α} {m : List β} (h : Paired F l m) (k : ∀ a b, F a b → G a b) : Paired G l m := Paired.mono k h

/-! ### loops and comprehensions over a list that stands -/
theorem for_pl {α : Type} {K : PySem.W.Frag} {a : Addr} {xs : List V} {l : List α} {F : Hp → V → α → Prop} {g : TG} {tb : TS} {D : Ends} {σ : St} {H : Hp} (Pv : List α → St → Hp → Prop) (h0 : Pv [] σ H)
    (hl : ∀ d σ H, Pv d σ H → SqL K H a xs ∧ Paired (F H) xs l)
    (hs : ∀ d y r x σ H, l = d ++ y :: r → F H x y → Pv d σ H → g x σ H fun σ2 H2 => tb { D with nx := Pv (d ++ [y]), ct := Pv (d ++ [y]), bk := D.nx } σ2 H2) (hd : ∀ σ H, Pv l σ H → D.nx σ H) :
    ∃ W : Nat → Nat → St → Hp → Prop, (∃ m, W 0 m σ H) ∧ ∀ i m σ H, W i m σ H →
      ((Itl K a).stop i H ∧ D.nx σ H) ∨ ((Itl K a).go i H ∧ ∃ N : St → Hp → Prop, (∀ σ' H', N σ' H' → ∃ m', m' < m ∧ W (i + 1) m' σ' H') ∧ ∀ x H', (Itl K a).yld i H x H' → g x σ H' fun σ2 H2 => tb { D with nx := N, ct := N, bk := D.nx } σ2 H2) := by
  have len : xs.length = l.length := Paired.length (hl [] σ H h0).2
  refine for_list (xs := xs) (fun i σ H => Pv (l.take i) σ H) h0 (fun i σ H _ p => (hl _ σ H p).1) (fun i x σ H hx p => ?_) fun σ H p => ?_
  · obtain ⟨y, hy, f⟩ := pair_get (hl _ σ H p).2 hx
    have q := hs (l.take i) y (l.drop (i + 1)) x σ H (split_at hy) f p
    rw [← take_snoc hy] at q
    exact q
  · rw [len, List.take_length] at p
    exact hd σ H p
theorem lc_pl {α : Type} {K : PySem.W.Frag} {a : Addr} {xs : List V} {l : List α} {F : Hp → V → α → Prop} {g : TG} {tt : TT} {te : TE} {vs : List Nat} {σ : St} {H1 : Hp} {D : Addr} {Qd : Hp → Prop} (Pv : List α → Hp → Prop) (h0 : Pv [] (upd H1 D (.lst [])))
    (hl : ∀ d H, Pv d H → SqL K H a xs ∧ Paired (F H) xs l)
    (hs : ∀ d y r x H, l = d ++ y :: r → F H x y → Pv d H → g x (wipe σ vs) H fun σ2 H2 => wipe σ2 vs = wipe σ vs ∧ tt σ2 H2 fun b H3 =>
      if b = true then te σ2 H3 fun y' H4 => ∃ acc, H4 D = some (.lst acc) ∧ acc.length < sizeLine ∧ Pv (d ++ [y]) (upd H4 D (.lst (acc ++ [y']))) else Pv (d ++ [y]) H3) (hd : ∀ H, Pv l H → Qd H) :
    ∃ W : Nat → Nat → Hp → Prop, (∃ m, W 0 m (upd H1 D (.lst []))) ∧ ∀ i m H, W i m H →
      ((Itl K a).stop i H ∧ Qd H) ∨ ((Itl K a).go i H ∧ ∃ Nx : Hp → Prop, (∀ H', Nx H' → ∃ m', m' < m ∧ W (i + 1) m' H') ∧ ∀ x H', (Itl K a).yld i H x H' → g x (wipe σ vs) H' fun σ2 H2 => wipe σ2 vs = wipe σ vs ∧ tt σ2 H2 fun b H3 =>
        if b = true then te σ2 H3 fun y H4 => ∃ acc, H4 D = some (.lst acc) ∧ acc.length < sizeLine ∧ Nx (upd H4 D (.lst (acc ++ [y]))) else Nx H3) := by
  have len : xs.length = l.length := Paired.length (hl [] _ h0).2
  refine lc_list (xs := xs) (fun i H => Pv (l.take i) H) h0 (fun i H _ p => (hl _ H p).1) (fun i x H hx p => ?_) fun H p => ?_
  · obtain ⟨y, hy, f⟩ := pair_get (hl _ H p).2 hx
    have q := hs (l.take i) y (l.drop (i + 1)) x H (split_at hy) f p
    rw [← take_snoc hy] at q
    exact q
  · rw [len, List.take_length] at p
    exact hd H p
/-- [e for t in xs if c] that changes nothing: the new list holds what f makes of the items -/
theorem lc_fm {α β : Type} {K : PySem.W.Frag} {a : Addr} {xs : List V} {l : List α} {F : Hp → V → α → Prop} {G : Hp → V → β → Prop} (f : α → Option β) {g : TG} {tt : TT} {te : TE} {vs : List Nat} {σ : St} {H1 : Hp} {D : Addr} {Qd : Hp → Prop}
    (hD : H1 D = none) (hS : SqL K H1 a xs) (hP : Paired (F H1) xs l) (mF : ∀ H H' v y, Tup H H' → F H v y → F H' v y) (mG : ∀ H H' v z, Tup H H' → G H v z → G H' v z) (hlen : l.length < sizeLine)
    (hs : ∀ y x H (R : V → Hp → Prop) (R' : Hp → Prop), y ∈ l → F H x y → Same H1 H → (∀ v z H4, f y = some z → Same H H4 → G H4 v z → R v H4) → (∀ H3, f y = none → Same H H3 → R' H3) →
      g x (wipe σ vs) H fun σ2 H2 => wipe σ2 vs = wipe σ vs ∧ tt σ2 H2 fun b H3 => if b = true then te σ2 H3 R else R' H3)
    (hd : ∀ H ys, Same H1 H → H D = some (.lst ys) → Paired (G H) ys (l.filterMap f) → Qd H) :
    ∃ W : Nat → Nat → Hp → Prop, (∃ m, W 0 m (upd H1 D (.lst []))) ∧ ∀ i m H, W i m H →
      ((Itl K a).stop i H ∧ Qd H) ∨ ((Itl K a).go i H ∧ ∃ Nx : Hp → Prop, (∀ H', Nx H' → ∃ m', m' < m ∧ W (i + 1) m' H') ∧ ∀ x H', (Itl K a).yld i H x H' → g x (wipe σ vs) H' fun σ2 H2 => wipe σ2 vs = wipe σ vs ∧ tt σ2 H2 fun b H3 =>
        if b = true then te σ2 H3 fun y H4 => ∃ acc, H4 D = some (.lst acc) ∧ acc.length < sizeLine ∧ Nx (upd H4 D (.lst (acc ++ [y]))) else Nx H3) := by
  have len : xs.length = l.length := Paired.length hP
  refine lc_pl (l := l) (xs := xs) (F := F) (fun d H => Same H1 H ∧ ∃ ys, H D = some (.lst ys) ∧ Paired (G H) ys (d.filterMap f) ∧ d.length ≤ l.length) ⟨same_new hD, [], upd_same, .nil, Nat.zero_le _⟩ (fun d H p => ⟨p.1.seq hS, pmap hP fun _ _ q => mF _ _ _ _ (tup_of p.1) q⟩) (fun d y r x H e fx p => ?_) fun H p => ?_
  · obtain ⟨sm, ys, hy, py, _⟩ := p
    have hm : y ∈ l := by rw [e]; exact List.mem_append_right _ (List.mem_cons_self ..)
    have hdl : d.length < l.length := by rw [e, List.length_append, List.length_cons]; omega
    have hle : (d ++ [y]).length ≤ l.length := by rw [List.length_append, List.length_singleton]; exact hdl
    refine hs y x H _ _ hm fx sm (fun v z H4 fz s4 gz => ?_) fun H3 fz s3 => ?_
    · have h4 := s4 _ _ hy
      have lys : ys.length ≤ d.length := by
        rw [Paired.length py]
        exact List.length_filterMap_le ..
      refine ⟨ys, h4, by omega, same_upd (sm.trans s4) hD, ys ++ [v], upd_same, ?_, hle⟩
      rw [List.filterMap_append, List.filterMap_cons, fz, List.filterMap_nil]
      have tu : Tup H4 (upd H4 D (.lst (ys ++ [v]))) := tup_lst h4
      exact (pmap py fun _ _ q => mG _ _ _ _ ((tup_of s4).trans tu) q).snoc (mG _ _ _ _ tu gz)
    · refine ⟨sm.trans s3, ys, s3 _ _ hy, ?_, hle⟩
      rw [List.filterMap_append, List.filterMap_cons, fz, List.filterMap_nil, List.append_nil]
      exact pmap py fun _ _ q => mG _ _ _ _ (tup_of s3) q
  · obtain ⟨sm, ys, hy, py, _⟩ := p
    exact hd H ys sm hy py
theorem sqT_mono {K : PySem.W.Frag} {H H' : Hp} {a : Addr} {xs : List V} (e : Same H H') (h : SqT K H a xs) : SqT K H' a xs := by
  rcases h with (h | ⟨o, h⟩) | h
  · exact .inl (.inl (e _ _ h))
  · exact .inl (.inr ⟨o, e _ _ h⟩)
  · exact .inr h
theorem lc_plT {α : Type} {K : PySem.W.Frag} {a : Addr} {xs : List V} {l : List α} {F : Hp → V → α → Prop} {g : TG} {tt : TT} {te : TE} {vs : List Nat} {σ : St} {H1 : Hp} {D : Addr} {Qd : Hp → Prop} (Pv : List α → Hp → Prop) (h0 : Pv [] (upd H1 D (.lst [])))
    (hl : ∀ d H, Pv d H → SqT K H a xs ∧ Paired (F H) xs l)
    (hs : ∀ d y r x H, l = d ++ y :: r → F H x y → Pv d H → g x (wipe σ vs) H fun σ2 H2 => wipe σ2 vs = wipe σ vs ∧ tt σ2 H2 fun b H3 =>
      if b = true then te σ2 H3 fun y' H4 => ∃ acc, H4 D = some (.lst acc) ∧ acc.length < sizeLine ∧ Pv (d ++ [y]) (upd H4 D (.lst (acc ++ [y']))) else Pv (d ++ [y]) H3) (hd : ∀ H, Pv l H → Qd H) :
    ∃ W : Nat → Nat → Hp → Prop, (∃ m, W 0 m (upd H1 D (.lst []))) ∧ ∀ i m H, W i m H →
      ((Itt K a).stop i H ∧ Qd H) ∨ ((Itt K a).go i H ∧ ∃ Nx : Hp → Prop, (∀ H', Nx H' → ∃ m', m' < m ∧ W (i + 1) m' H') ∧ ∀ x H', (Itt K a).yld i H x H' → g x (wipe σ vs) H' fun σ2 H2 => wipe σ2 vs = wipe σ vs ∧ tt σ2 H2 fun b H3 =>
        if b = true then te σ2 H3 fun y H4 => ∃ acc, H4 D = some (.lst acc) ∧ acc.length < sizeLine ∧ Nx (upd H4 D (.lst (acc ++ [y]))) else Nx H3) := by
  have len : xs.length = l.length := Paired.length (hl [] _ h0).2
  refine lc_tup (xs := xs) (fun i H => Pv (l.take i) H) h0 (fun i H _ p => (hl _ H p).1) (fun i x H hx p => ?_) fun H p => ?_
  · obtain ⟨y, hy, f⟩ := pair_get (hl _ H p).2 hx
    have q := hs (l.take i) y (l.drop (i + 1)) x H (split_at hy) f p
    rw [← take_snoc hy] at q
    exact q
  · rw [len, List.take_length] at p
    exact hd H p
/-- the same over a tuple -/
theorem lc_fmT {α β : Type} {K : PySem.W.Frag} {a : Addr} {xs : List V} {l : List α} {F : Hp → V → α → Prop} {G : Hp → V → β → Prop} (f : α → Option β) {g : TG} {tt : TT} {te : TE} {vs : List Nat} {σ : St} {H1 : Hp} {D : Addr} {Qd : Hp → Prop}
    (hD : H1 D = none) (hS : SqT K H1 a xs) (hP : Paired (F H1) xs l) (mF : ∀ H H' v y, Tup H H' → F H v y → F H' v y) (mG : ∀ H H' v z, Tup H H' → G H v z → G H' v z) (hlen : l.length < sizeLine)
    (hs : ∀ y x H (R : V → Hp → Prop) (R' : Hp → Prop), y ∈ l → F H x y → Same H1 H → (∀ v z H4, f y = some z → Same H H4 → G H4 v z → R v H4) → (∀ H3, f y = none → Same H H3 → R' H3) →
      g x (wipe σ vs) H fun σ2 H2 => wipe σ2 vs = wipe σ vs ∧ tt σ2 H2 fun b H3 => if b = true then te σ2 H3 R else R' H3)
    (hd : ∀ H ys, Same H1 H → H D = some (.lst ys) → Paired (G H) ys (l.filterMap f) → Qd H) :
    ∃ W : Nat → Nat → Hp → Prop, (∃ m, W 0 m (upd H1 D (.lst []))) ∧ ∀ i m H, W i m H →
      ((Itt K a).stop i H ∧ Qd H) ∨ ((Itt K a).go i H ∧ ∃ Nx : Hp → Prop, (∀ H', Nx H' → ∃ m', m' < m ∧ W (i + 1) m' H') ∧ ∀ x H', (Itt K a).yld i H x H' → g x (wipe σ vs) H' fun σ2 H2 => wipe σ2 vs = wipe σ vs ∧ tt σ2 H2 fun b H3 =>
        if b = true then te σ2 H3 fun y H4 => ∃ acc, H4 D = some (.lst acc) ∧ acc.length < sizeLine ∧ Nx (upd H4 D (.lst (acc ++ [y]))) else Nx H3) := by
  have len : xs.length = l.length := Paired.length hP
  refine lc_plT (l := l) (xs := xs) (F := F) (fun d H => Same H1 H ∧ ∃ ys, H D = some (.lst ys) ∧ Paired (G H) ys (d.filterMap f) ∧ d.length ≤ l.length) ⟨same_new hD, [], upd_same, .nil, Nat.zero_le _⟩ (fun d H p => ⟨sqT_mono p.1 hS, pmap hP fun _ _ q => mF _ _ _ _ (tup_of p.1) q⟩) (fun d y r x H e fx p => ?_) fun H p => ?_
  · obtain ⟨sm, ys, hy, py, _⟩ := p
    have hm : y ∈ l := by rw [e]; exact List.mem_append_right _ (List.mem_cons_self ..)
    have hdl : d.length < l.length := by rw [e, List.length_append, List.length_cons]; omega
    have hle : (d ++ [y]).length ≤ l.length := by rw [List.length_append, List.length_singleton]; exact hdl
    refine hs y x H _ _ hm fx sm (fun v z H4 fz s4 gz => ?_) fun H3 fz s3 => ?_
    · have h4 := s4 _ _ hy
      have lys : ys.length ≤ d.length := by
        rw [Paired.length py]
        exact List.length_filterMap_le ..
      refine ⟨ys, h4, by omega, same_upd (sm.trans s4) hD, ys ++ [v], upd_same, ?_, hle⟩
      rw [List.filterMap_append, List.filterMap_cons, fz, List.filterMap_nil]
      have tu : Tup H4 (upd H4 D (.lst (ys ++ [v]))) := tup_lst h4
      exact (pmap py fun _ _ q => mG _ _ _ _ ((tup_of s4).trans tu) q).snoc (mG _ _ _ _ tu gz)
    · refine ⟨sm.trans s3, ys, s3 _ _ hy, ?_, hle⟩
      rw [List.filterMap_append, List.filterMap_cons, fz, List.filterMap_nil, List.append_nil]
      exact pmap py fun _ _ q => mG _ _ _ _ (tup_of s3) q
  · obtain ⟨sm, ys, hy, py, _⟩ := p
    exact hd H ys sm hy py
theorem fm_filter {α : Type} (c : α → Bool) : ∀ l : List α, (l.filterMap fun x => if c x = true then some x else none) = l.filter c
  | [] => rfl
  | x :: l => by
    rw [List.filterMap_cons, List.filter_cons]
    by_cases h : c x = true
    · rw [if_pos h, if_pos h, fm_filter c l]
    · rw [if_neg h, if_neg h, fm_filter c l]
theorem fm_map {α β : Type} (f : α → β) : ∀ l : List α, (l.filterMap fun x => some (f x)) = l.map f
  | [] => rfl
  | x :: l => by rw [List.filterMap_cons, List.map_cons, fm_map f l]

/-! ### what stands in the heap -/
/-- (row, count) -/
def PairV (H : Hp) (v : V) (p : Row × Int) : Prop := ∃ a b, v = .ref a ∧ H a = some (.tup [.ref b, .int p.2]) ∧ RowA H b p.1
def BagV (H : Hp) (v : V) (l : List (Row × Int)) : Prop := ∃ a vs, v = .ref a ∧ H a = some (.lst vs) ∧ Paired (PairV H) vs l
/-- (time, value, count) -/
def PtV (H : Hp) (v : V) (p : Td.Pt) : Prop := ∃ a, v = .ref a ∧ H a = some (.tup [.int p.1, .int p.2.1, .int p.2.2])
def PtsV (H : Hp) (v : V) (l : List Td.Pt) : Prop := ∃ a vs, v = .ref a ∧ H a = some (.lst vs) ∧ Paired (PtV H) vs l
theorem RowA.mono {H H' : Hp} {a : Addr} {r : Row} (t : Tup H H') (h : RowA H a r) : RowA H' a r := t _ _ h
theorem PairV.mono {H H' : Hp} {v : V} {p : Row × Int} (t : Tup H H') (h : PairV H v p) : PairV H' v p := by
  obtain ⟨a, b, e, h1, h2⟩ := h
  exact ⟨a, b, e, t _ _ h1, t _ _ h2⟩
theorem PtV.mono {H H' : Hp} {v : V} {p : Td.Pt} (t : Tup H H') (h : PtV H v p) : PtV H' v p := by
  obtain ⟨a, e, h1⟩ := h
  exact ⟨a, e, t _ _ h1⟩
theorem BagV.mono {H H' : Hp} {v : V} {l : List (Row × Int)} (t : Same H H') (h : BagV H v l) : BagV H' v l := by
  obtain ⟨a, vs, e, h1, h2⟩ := h
  exact ⟨a, vs, e, t _ _ h1, pmap h2 fun _ _ q => q.mono (tup_of t)⟩
theorem PtsV.mono {H H' : Hp} {v : V} {l : List Td.Pt} (t : Same H H') (h : PtsV H v l) : PtsV H' v l := by
  obtain ⟨a, vs, e, h1, h2⟩ := h
  exact ⟨a, vs, e, t _ _ h1, pmap h2 fun _ _ q => q.mono (tup_of t)⟩
/-- a show -/
structure Sh where
  keys : Option (List PySem.Str)
  low : Option Int
  high : Option Int
  holes : List Int
  fac : Int
def optI : Option Int → V
  | none => .non
  | some i => .int i
def KeysV (H : Hp) (v : V) : Option (List PySem.Str) → Prop
  | none => v = .non
  | some ks => ∃ a, v = .ref a ∧ H a = some (.tup (ks.map V.str))
def ShowV (H : Hp) (v : V) (s : Sh) : Prop := ∃ a kv ho nv, v = .ref a ∧ H a = some (.tup [kv, optI s.low, optI s.high, .ref ho, .int s.fac, nv]) ∧ KeysV H kv s.keys ∧ H ho = some (.tup (s.holes.map V.int))
def ShowO (H : Hp) (v : V) : Option Sh → Prop
  | none => v = .non
  | some s => ShowV H v s
theorem KeysV.mono {H H' : Hp} {v : V} {k : Option (List PySem.Str)} (t : Tup H H') (h : KeysV H v k) : KeysV H' v k := by
  cases k with
  | none => exact h
  | some ks =>
    obtain ⟨a, e, h1⟩ := h
    exact ⟨a, e, t _ _ h1⟩
theorem ShowV.mono {H H' : Hp} {v : V} {s : Sh} (t : Tup H H') (h : ShowV H v s) : ShowV H' v s := by
  obtain ⟨a, kv, ho, nv, e, h1, h2, h3⟩ := h
  exact ⟨a, kv, ho, nv, e, t _ _ h1, h2.mono t, t _ _ h3⟩
theorem ShowO.mono {H H' : Hp} {v : V} {s : Option Sh} (t : Tup H H') (h : ShowO H v s) : ShowO H' v s := by
  cases s with
  | none => exact h
  | some s => exact ShowV.mono t h
def below (o : Option Int) (v : Int) : Bool := match o with
  | none => false
  | some l => decide (v < l)
def above (o : Option Int) (v : Int) : Bool := match o with
  | none => false
  | some h => decide (h < v)
def holed (hs : List Int) (v : Int) : Bool := hs.any fun h => h == v
/-- v is shown -/
def inS (s : Sh) (v : Int) : Bool := !(below s.low v || above s.high v) && !holed s.holes v
def seenK (s : Sh) (k : PySem.Str) : Bool := match s.keys with
  | none => true
  | some ks => ks.any fun x => x == k
def seenO (s : Option Sh) (k : PySem.Str) : Bool := match s with
  | none => false
  | some s => seenK s k
/-- what the law says of a show's holes and bounds -/
structure ShOk (s : Sh) : Prop where
  up : s.holes.Pairwise (· < ·)
  lo : ∀ l, s.low = some l → ∀ h ∈ s.holes, l < h
  hi : ∀ l, s.high = some l → ∀ h ∈ s.holes, h < l
  lh : ∀ l h, s.low = some l → s.high = some h → l ≤ h
  few : s.holes.length ≤ 1000
theorem in_ints (v : Int) (l : List Int) : inV (.int v) (l.map V.int) = holed l v := by
  unfold inV holed
  rw [List.any_map]
  rfl
theorem in_strs (v : PySem.Str) (l : List PySem.Str) : inV (.str v) (l.map V.str) = l.any fun x => x == v := by
  unfold inV
  rw [List.any_map]
  rfl
theorem flat_ints (l : List Int) : (l.map V.int).all flatV = true := by
  rw [List.all_map]
  exact List.all_eq_true.mpr fun _ _ => rfl
theorem flat_strs (l : List PySem.Str) : (l.map V.str).all flatV = true := by
  rw [List.all_map]
  exact List.all_eq_true.mpr fun _ _ => rfl
theorem optI_non (o : Option Int) : decide (optI o = V.non) = o.isNone := by
  cases o <;> rfl
/-! ### rules with K named (within a comprehension's block the reading may not speak of the block) -/
section
variable {X : Cx}
theorem ixT (K : PySem.W.Frag) (h : X.K = K := by rfl) : IxR X (rIxT K) := by
  subst h
  exact ix_tup
theorem ixL (K : PySem.W.Frag) (h : X.K = K := by rfl) : IxR X (rIxL K) := by
  subst h
  exact ix_list
theorem inSeq (K : PySem.W.Frag) (h : X.K = K := by rfl) : OpR X (compareOp .In) (rIn K false) := by
  subst h
  exact op_in_seq
theorem notInSeq (K : PySem.W.Frag) (h : X.K = K := by rfl) : OpR X (compareOp .NotIn) (rIn K true) := by
  subst h
  exact op_notIn_seq
theorem pgTup (K : PySem.W.Frag) (n : Nat) {es : List Expr} {k : Nat} {pos : Pos} {t : TGs} (hc : X.calm = true) (h : PGs X es t) (hk : X.K = K := by rfl)
    (hn : (assignEach es X.env).length = n := by rfl) (hst : (assignEach es X.env).findIdx? (·.1) = none := by rfl) : PG X (.Tuple es k pos) (gTup K n t) := by
  subst hk
  exact pg_tup hc h hn hst
end
/-- ints side by side -/
def IntV (_ : Hp) (v : V) (i : Int) : Prop := v = .int i
theorem pair_ints {H : Hp} : ∀ l : List Int, Paired (IntV H) (l.map V.int) l
  | [] => .nil
  | _ :: l => .cons rfl (pair_ints l)
theorem ints_pair {H : Hp} : ∀ {ys : List V} {l : List Int}, Paired (IntV H) ys l → ys = l.map V.int
  | _, _, .nil => rfl
  | _, _, .cons (a := v) (b := i) h t => by
    rw [ints_pair t, show v = .int i from h]
    rfl
theorem IntV.mono {H H' : Hp} {v : V} {i : Int} (_ : Tup H H') (h : IntV H v i) : IntV H' v i := h
theorem size1000 {n : Nat} (h : n ≤ 1000) : n ≤ sizeLine := Nat.le_of_lt (small1000 h)
end L2.K21
namespace L2.K21
open PySem PySem.Spec PyProof.Rows
/-- where the defs stand, and that the built-in names are the built-ins -/
structure Txt (K : PySem.W.Frag) (mg : PySem.Str → Option Value) where
  d_changes_of : DefAt K mg "changes_of" (topS 1) ["pairs"]
  d_final : DefAt K mg "final" (topS 2) ["bag", "mark"]
  d_not_final : DefAt K mg "not_final" (topS 3) ["bag", "mark"]
  d_shows_key : DefAt K mg "shows_key" (topS 5) ["show", "key"]
  d_shows_value : DefAt K mg "shows_value" (topS 6) ["show", "value"]
  d_is_shown : DefAt K mg "is_shown" (topS 8) ["show", "value"]
  d_shows_all : DefAt K mg "shows_all" (topS 9) ["show"]
  d_step_out : DefAt K mg "step_out" (topS 10) ["holes", "value", "step"]
  d_run_top : DefAt K mg "run_top" (topS 11) ["show", "value"]
  d_run_bottom : DefAt K mg "run_bottom" (topS 12) ["show", "value"]
  d_class_of : DefAt K mg "class_of" (topS 13) ["show", "value", "first", "last"]
  d_class_above : DefAt K mg "class_above" (topS 14) ["show", "value"]
  d_class_below : DefAt K mg "class_below" (topS 15) ["show", "value"]
  d_count_limit : DefAt K mg "count_limit" (topS 16) ["show"]
  d_seen : DefAt K mg "seen" (topS 18) ["show", "bag"]
  d_values_by_key : DefAt K mg "values_by_key" (topS 19) ["bag"]
  d_number_of : DefAt K mg "number_of" (topS 20) ["parts"]
  d_sum_of : DefAt K mg "sum_of" (topS 21) ["parts"]
  d_extreme_of : DefAt K mg "extreme_of" (topS 22) ["parts", "aggregate"]
  d_class_for : DefAt K mg "class_for" (topS 23) ["show", "aggregate", "value"]
  d_counts_kept : DefAt K mg "counts_kept" (topS 24) ["groups", "key", "limit"]
  d_sums_kept : DefAt K mg "sums_kept" (topS 25) ["groups", "key", "show"]
  d_extremes_kept : DefAt K mg "extremes_kept" (topS 26) ["groups", "key", "aggregate", "show"]
  d_groups_kept : DefAt K mg "groups_kept" (topS 27) ["groups", "key", "aggregate", "show"]
  d_last_sitting : DefAt K mg "last_sitting" (topS 28) ["parts", "gap"]
  d_keep_sittings : DefAt K mg "keep_sittings" (topS 29) ["bag", "mark", "gap", "aggregate", "show"]
  d__law_draw : DefAt K mg "_law_draw" (topS 31) ["_law_script"]
  d__law_next : DefAt K mg "_law_next" (topS 32) ["_law_draw_here", "_law_many"]
  d__law_same : DefAt K mg "_law_same" (topS 33) ["_law_actual", "_law_due"]
  d__law_passes : DefAt K mg "_law_passes" (topS 34) ["_law_comparison", "_law_value_here", "_law_bound"]
  d__law_stage : DefAt K mg "_law_stage" (topS 35) ["_law_draw_here"]
  d__law_stages : DefAt K mg "_law_stages" (topS 36) ["_law_draw_here", "_law_most"]
  d__law_value : DefAt K mg "_law_value" (topS 37) ["_law_stages_here", "_law_value_here"]
  d__law_keys_shown : DefAt K mg "_law_keys_shown" (topS 38) ["_law_stages_here"]
  d__law_show : DefAt K mg "_law_show" (topS 39) ["_law_stages_here"]
  d__law_added : DefAt K mg "_law_added" (topS 41) ["_law_pairs"]
  d__law_seen : DefAt K mg "_law_seen" (topS 43) ["_law_show_here", "_law_key"]
  d__law_bag : DefAt K mg "_law_bag" (topS 45) ["_law_draw_here", "_law_mark_here", "_law_most"]
  d__law_changes : DefAt K mg "_law_changes" (topS 46) ["_law_draw_here", "_law_bag_here", "_law_mark_here"]
  d__law_mark : DefAt K mg "_law_mark" (topS 47) ["_law_draw_here"]
  d__law_aggregate : DefAt K mg "_law_aggregate" (topS 49) ["_law_draw_here"]
  d__law_for : DefAt K mg "_law_for" (topS 50) ["_law_show_here", "_law_changes_here"]
  z_abs : mg "abs" = none
  z_all : mg "all" = none
  z_bool : mg "bool" = none
  z_enumerate : mg "enumerate" = none
  z_int : mg "int" = none
  z_isinstance : mg "isinstance" = none
  z_len : mg "len" = none
  z_list : mg "list" = none
  z_max : mg "max" = none
  z_min : mg "min" = none
  z_range : mg "range" = none
  z_sorted : mg "sorted" = none
  z_str : mg "str" = none
  z_sum : mg "sum" = none
  z_tuple : mg "tuple" = none
end L2.K21
namespace L2.K21
open PySem PySem.Spec PyProof.Rows
open TdS (RowA ltR SortedOf)
section
variable {P : Program} {w : World} {K : PySem.W.Frag} {mg : PySem.Str → Option Value} {base : Heap}
/-! ### final, not_final, shows_key, shows_value, is_shown, shows_all, seen -/
def spFinal : Sp := fun vs H Q _ => ∃ v l m, vs = [v, .int m] ∧ BagV H v l ∧ l.length ≤ 1000 ∧ ∀ u H', Same H H' → BagV H' u (l.filter fun p => decide (p.1.1 < m)) → Q u H'
theorem sc_final : FnScope ["bag", "mark", "row", "count"] ["bag", "mark"] (defScope (topS 2)) := ⟨rfl, rfl, rfl, by decide +kernel, rfl, by decide +kernel, by decide +kernel⟩
theorem ok_final (T : Txt K mg) : FnOk P w K mg base CX0 1 T.d_final.f T.d_final.fd ["bag", "mark"] spFinal := by
  refine T.d_final.F.ok sc_final (fun vs H Q E h => ?_) (fun cdv A outer s H vs Q E hr h => ?_)
  · obtain ⟨v, l, m, rfl, _⟩ := h
    rfl
  · obtain ⟨v, l, m, rfl, ⟨a, xs, rfl, ha, hp⟩, hl, q⟩ := h
    refine ⟨_, (pss_one (ps_ret (pe_lc (own := [("row", 2), ("count", 3)]) (by rfl) sc_final.nd (pi_list (pv 0)) (blkOk_by (own := [("row", 2), ("count", 3)]) (N := ["bag", "mark", "row", "count"]) (sc := defScope (topS 2)) (by decide +kernel)) (fun _ _ _ _ _ => (pgTup K 2 rfl (pgs_cons (pg_name (i := 2) sc_final.nd rfl (Or.inl rfl)) (pgs_cons (pg_name (i := 3) sc_final.nd rfl (Or.inl rfl)) pgs_nil)))) (fun _ _ _ _ _ => pts_one (pt_cmpR op_lt (pe_ix (ixT K) (pv 2) pe_int (fun _ _ => rfl)) (pv 1) (nomark _))) (fun _ _ _ _ _ => (pe_tup (pa_cons (pv 2) (pa_cons (pv 3) pa_nil))))))), ?_⟩
    refine ⟨.ref a, rfl, a, rfl, ⟨_, SqL.of ha⟩, fun D nD => ?_⟩
    refine lc_fm (F := PairV) (G := PairV) (fun p : Row × Int => if decide (p.1.1 < m) = true then some p else none) nD (SqL.of ha) hp (fun _ _ _ _ => PairV.mono) (fun _ _ _ _ => PairV.mono) (small1000 hl) (fun y x H1 R R' _ fx sm h1 h2 => ?_) fun H1 ys sm hy py => ?_
    · obtain ⟨b, c, rfl, hb, hc⟩ := fx
      refine ⟨b, _, rfl, SqT.of hb, rfl, _, _, rfl, _, _, rfl, rfl, rfl, ?_⟩
      refine ⟨_, rfl, _, _, _, _, rfl, rfl, SqT.of hc, rfl, _, rfl, _, _, rfl, rfl, _, rfl, ite2 (fun e => ?_) fun e => ?_⟩
      · refine ⟨_, rfl, _, rfl, (by show 2 ≤ sizeLine; decide), fun t nt => ?_⟩
        exact h1 _ y _ (if_pos e) (same_new nt) ⟨t, c, rfl, upd_same, RowA.mono (tup_new nt) hc⟩
      · exact h2 _ (if_neg e) (Same.refl _)
    · rw [fm_filter] at py
      exact q _ _ sm ⟨D, ys, rfl, hy, py⟩
def spNotFinal : Sp := fun vs H Q _ => ∃ v l m, vs = [v, .int m] ∧ BagV H v l ∧ l.length ≤ 1000 ∧ ∀ u H', Same H H' → BagV H' u (l.filter fun p => decide (m ≤ p.1.1)) → Q u H'
theorem sc_not_final : FnScope ["bag", "mark", "row", "count"] ["bag", "mark"] (defScope (topS 3)) := ⟨rfl, rfl, rfl, by decide +kernel, rfl, by decide +kernel, by decide +kernel⟩
theorem ok_not_final (T : Txt K mg) : FnOk P w K mg base CX0 1 T.d_not_final.f T.d_not_final.fd ["bag", "mark"] spNotFinal := by
  refine T.d_not_final.F.ok sc_not_final (fun vs H Q E h => ?_) (fun cdv A outer s H vs Q E hr h => ?_)
  · obtain ⟨v, l, m, rfl, _⟩ := h
    rfl
  · obtain ⟨v, l, m, rfl, ⟨a, xs, rfl, ha, hp⟩, hl, q⟩ := h
    refine ⟨_, (pss_one (ps_ret (pe_lc (own := [("row", 2), ("count", 3)]) (by rfl) sc_not_final.nd (pi_list (pv 0)) (blkOk_by (own := [("row", 2), ("count", 3)]) (N := ["bag", "mark", "row", "count"]) (sc := defScope (topS 3)) (by decide +kernel)) (fun _ _ _ _ _ => (pgTup K 2 rfl (pgs_cons (pg_name (i := 2) sc_not_final.nd rfl (Or.inl rfl)) (pgs_cons (pg_name (i := 3) sc_not_final.nd rfl (Or.inl rfl)) pgs_nil)))) (fun _ _ _ _ _ => pts_one (pt_cmpR op_ge (pe_ix (ixT K) (pv 2) pe_int (fun _ _ => rfl)) (pv 1) (nomark _))) (fun _ _ _ _ _ => (pe_tup (pa_cons (pv 2) (pa_cons (pv 3) pa_nil))))))), ?_⟩
    refine ⟨.ref a, rfl, a, rfl, ⟨_, SqL.of ha⟩, fun D nD => ?_⟩
    refine lc_fm (F := PairV) (G := PairV) (fun p : Row × Int => if decide (m ≤ p.1.1) = true then some p else none) nD (SqL.of ha) hp (fun _ _ _ _ => PairV.mono) (fun _ _ _ _ => PairV.mono) (small1000 hl) (fun y x H1 R R' _ fx sm h1 h2 => ?_) fun H1 ys sm hy py => ?_
    · obtain ⟨b, c, rfl, hb, hc⟩ := fx
      refine ⟨b, _, rfl, SqT.of hb, rfl, _, _, rfl, _, _, rfl, rfl, rfl, ?_⟩
      refine ⟨_, rfl, _, _, _, _, rfl, rfl, SqT.of hc, rfl, _, rfl, _, _, rfl, rfl, _, rfl, ite2 (fun e => ?_) fun e => ?_⟩
      · refine ⟨_, rfl, _, rfl, (by show 2 ≤ sizeLine; decide), fun t nt => ?_⟩
        exact h1 _ y _ (if_pos e) (same_new nt) ⟨t, c, rfl, upd_same, RowA.mono (tup_new nt) hc⟩
      · exact h2 _ (if_neg e) (Same.refl _)
    · rw [fm_filter] at py
      exact q _ _ sm ⟨D, ys, rfl, hy, py⟩
end
end L2.K21
namespace L2.K21
open PySem PySem.Spec PyProof.Rows
open TdS (RowA ltR SortedOf)
section
variable {P : Program} {w : World} {K : PySem.W.Frag} {mg : PySem.Str → Option Value} {base : Heap}
def spShowsKey : Sp := fun vs H Q _ => ∃ v s k, vs = [v, .str k] ∧ ShowO H v s ∧ Q (.bl (seenO s k)) H
theorem sc_shows_key : FnScope ["show", "key"] ["show", "key"] (defScope (topS 5)) := ⟨rfl, rfl, rfl, by decide +kernel, rfl, by decide +kernel, by decide +kernel⟩
theorem ok_shows_key (T : Txt K mg) : FnOk P w K mg base CX0 1 T.d_shows_key.f T.d_shows_key.fd ["show", "key"] spShowsKey := by
  refine T.d_shows_key.F.ok sc_shows_key (fun vs H Q E h => ?_) (fun cdv A outer s H vs Q E hr h => ?_)
  · obtain ⟨v, l, m, rfl, _⟩ := h
    rfl
  · obtain ⟨v, s, k, rfl, hs, q⟩ := h
    refine ⟨_, (pss_one (ps_ret (pe_and (pe_cmpR op_notN (pv 0) pe_non (nomark _)) (pe_one (pe_or (pe_cmpR op_isN (pe_ix (ixT K) (pv 0) pe_int (fun _ _ => rfl)) pe_non (nomark _)) (pe_one (pe_cmpR (inSeq K) (pv 1) (pe_ix (ixT K) (pv 0) pe_int (fun _ _ => rfl)) (by rfl)))))))), ?_⟩
    cases s with
    | none =>
      cases (show v = .non from hs)
      exact ⟨_, rfl, rfl, _, rfl, iteF q⟩
    | some s =>
      obtain ⟨a, kv, ho, nv, rfl, h1, hk, h3⟩ := (show ShowV H v s from hs)
      refine ⟨_, rfl, rfl, _, rfl, iteT ?_⟩
      refine ⟨_, rfl, _, _, _, _, rfl, rfl, SqT.of h1, rfl, rfl, _, rfl, ?_⟩
      have e : seenO (some s) k = match s.keys with
        | none => true
        | some ks => ks.any fun x => x == k := rfl
      rw [e] at q
      cases hks : s.keys with
      | none =>
        rw [hks] at hk q
        cases (show kv = .non from hk)
        exact iteT q
      | some ks =>
        rw [hks] at hk q
        obtain ⟨b, rfl, hb⟩ := hk
        refine iteF ⟨_, rfl, _, rfl, _, _, _, _, rfl, rfl, SqT.of h1, rfl, _, _, rfl, .inr (SqT.of hb), rfl, flat_strs ks, ?_⟩
        show Q (.bl (inV (.str k) (ks.map V.str))) H
        rw [in_strs]
        exact q
def spShowsValue : Sp := fun vs H Q _ => ∃ v s k, vs = [v, .int k] ∧ ShowV H v s ∧ Q (.bl (inS s k)) H
theorem sc_shows_value : FnScope ["show", "value"] ["show", "value"] (defScope (topS 6)) := ⟨rfl, rfl, rfl, by decide +kernel, rfl, by decide +kernel, by decide +kernel⟩
theorem ok_shows_value (T : Txt K mg) : FnOk P w K mg base CX0 1 T.d_shows_value.f T.d_shows_value.fd ["show", "value"] spShowsValue := by
  refine T.d_shows_value.F.ok sc_shows_value (fun vs H Q E h => ?_) (fun cdv A outer s H vs Q E hr h => ?_)
  · obtain ⟨v, l, m, rfl, _⟩ := h
    rfl
  · obtain ⟨v, s, k, rfl, ⟨a, kv, ho, nv, rfl, h1, hk, h3⟩, q⟩ := h
    refine ⟨_, (pss_cons (ps_if (PW.pt (pw_or (PW.pt (pw_and (pt_cmpR op_notN (pe_ix (ixT K) (pv 0) pe_int (fun _ _ => rfl)) pe_non (nomark _)) (pw_and1 (pt_cmpR op_lt (pv 1) (pe_ix (ixT K) (pv 0) pe_int (fun _ _ => rfl)) (nomark _))))) (pw_or1 (PW.pt (pw_and (pt_cmpR op_notN (pe_ix (ixT K) (pv 0) pe_int (fun _ _ => rfl)) pe_non (nomark _)) (pw_and1 (pt_cmpR op_gt (pv 1) (pe_ix (ixT K) (pv 0) pe_int (fun _ _ => rfl)) (nomark _))))))))
        (pss_one (ps_ret pe_bl))
        pss_nil)
      (pss_one (ps_ret (pe_cmpR (notInSeq K) (pv 1) (pe_ix (ixT K) (pv 0) pe_int (fun _ _ => rfl)) (by rfl))))), ?_⟩
    obtain ⟨keys, low, high, holes, fac⟩ := s
    have fin : (below low k || above high k) = false → (Q (.bl (!holed holes k)) H) := fun e => by
      have : inS ⟨keys, low, high, holes, fac⟩ k = !holed holes k := by
        show (!(below low k || above high k) && !holed holes k) = _
        rw [e]
        rfl
      rw [this] at q
      exact q
    have out : (below low k || above high k) = true → (Q (.bl false) H) := fun e => by
      have : inS ⟨keys, low, high, holes, fac⟩ k = false := by
        show (!(below low k || above high k) && !holed holes k) = _
        rw [e]
        rfl
      rw [this] at q
      exact q
    have last : ∀ e : (below low k || above high k) = false, Q (.bl (if true then !inV (.int k) (holes.map V.int) else inV (.int k) (holes.map V.int))) H := fun e => by
      rw [in_ints]
      exact fin e
    cases low with
    | none =>
      refine ⟨_, rfl, _, _, _, _, rfl, rfl, SqT.of h1, rfl, rfl, _, rfl, iteF (iteF ?_)⟩
      cases high with
      | none =>
        refine ⟨_, rfl, _, _, _, _, rfl, rfl, SqT.of h1, rfl, rfl, _, rfl, iteF (iteF ?_)⟩
        exact ⟨_, rfl, _, rfl, _, _, _, _, rfl, rfl, SqT.of h1, rfl, _, _, rfl, .inr (SqT.of h3), rfl, flat_ints holes, last rfl⟩
      | some h =>
        refine ⟨_, rfl, _, _, _, _, rfl, rfl, SqT.of h1, rfl, rfl, _, rfl, iteT ⟨_, rfl, _, rfl, _, _, _, _, rfl, rfl, SqT.of h1, rfl, _, _, rfl, rfl, _, rfl, ite2 (fun c => ?_) fun c => ?_⟩⟩
        · exact out c
        · exact ⟨_, rfl, _, rfl, _, _, _, _, rfl, rfl, SqT.of h1, rfl, _, _, rfl, .inr (SqT.of h3), rfl, flat_ints holes, last (Bool.eq_false_iff.mpr c)⟩
    | some l =>
      refine ⟨_, rfl, _, _, _, _, rfl, rfl, SqT.of h1, rfl, rfl, _, rfl, iteT ⟨_, rfl, _, rfl, _, _, _, _, rfl, rfl, SqT.of h1, rfl, _, _, rfl, rfl, _, rfl, ite2 (fun c => ?_) fun c => ?_⟩⟩
      · exact iteT (out (by show (decide (k < l) || above high k) = true; rw [c]; rfl))
      · have c' : decide (k < l) = false := Bool.eq_false_iff.mpr c
        cases high with
        | none =>
          refine ⟨_, rfl, _, _, _, _, rfl, rfl, SqT.of h1, rfl, rfl, _, rfl, iteF (iteF ?_)⟩
          exact ⟨_, rfl, _, rfl, _, _, _, _, rfl, rfl, SqT.of h1, rfl, _, _, rfl, .inr (SqT.of h3), rfl, flat_ints holes, last (by show (decide (k < l) || false) = false; rw [c']; rfl)⟩
        | some h =>
          refine ⟨_, rfl, _, _, _, _, rfl, rfl, SqT.of h1, rfl, rfl, _, rfl, iteT ⟨_, rfl, _, rfl, _, _, _, _, rfl, rfl, SqT.of h1, rfl, _, _, rfl, rfl, _, rfl, ite2 (fun d => ?_) fun d => ?_⟩⟩
          · exact out (by show (decide (k < l) || decide (h < k)) = true; rw [c', d]; rfl)
          · exact ⟨_, rfl, _, rfl, _, _, _, _, rfl, rfl, SqT.of h1, rfl, _, _, rfl, .inr (SqT.of h3), rfl, flat_ints holes, last (by show (decide (k < l) || decide (h < k)) = false; rw [c', Bool.eq_false_iff.mpr d]; rfl)⟩
theorem sc_is_shown : FnScope ["show", "value"] ["show", "value"] (defScope (topS 8)) := ⟨rfl, rfl, rfl, by decide +kernel, rfl, by decide +kernel, by decide +kernel⟩
theorem ok_is_shown (T : Txt K mg) : FnOk P w K mg base CX0 2 T.d_is_shown.f T.d_is_shown.fd ["show", "value"] spShowsValue := by
  refine T.d_is_shown.F.ok sc_is_shown (fun vs H Q E h => ?_) (fun cdv A outer s H vs Q E hr h => ?_)
  · obtain ⟨v, l, m, rfl, _⟩ := h
    rfl
  · obtain ⟨v, s, k, rfl, hs, q⟩ := h
    refine ⟨_, (pss_one (ps_ret (pe_call (ok_shows_value T) (hr.mono (by decide)) (by rfl) T.d_shows_value.g T.d_shows_value.F.kp T.d_shows_value.b .nil pass0 (pa_cons (pv 0) (pa_cons (pv 1) pa_nil))))), ?_⟩
    exact ⟨_, rfl, _, rfl, v, s, k, rfl, hs, q⟩
def allS (s : Sh) : Bool := s.low.isNone && (s.high.isNone && s.holes.isEmpty)
def spShowsAll : Sp := fun vs H Q _ => ∃ v s, vs = [v] ∧ ShowV H v s ∧ ∀ H', Same H H' → Q (.bl (allS s)) H'
theorem dp_ints {H : Hp} : ∀ l : List Int, DpAll K H (l.map V.int) (l.map PyData.int)
  | [] => .nil
  | i :: l => .cons (.int i) (dp_ints l)
theorem lay_ints : ∀ l : List Int, PyData.canLayAll0 (l.map PyData.int) = true ∧ PyData.depthAll (l.map PyData.int) ≤ 1
  | [] => ⟨by simp only [List.map_nil, PyData.canLayAll0], by simp [PyData.depthAll]⟩
  | i :: l => by
    obtain ⟨h1, h2⟩ := lay_ints l
    refine ⟨by simp only [List.map_cons, PyData.canLayAll0, PyData.canLay0, h1, Bool.and_self], ?_⟩
    simp only [List.map_cons, PyData.depthAll, PyData.depth]
    omega
theorem sh_ints (l : List Int) : SeqAt.shaped (.tuple (l.map PyData.int)) = true := by
  obtain ⟨h1, h2⟩ := lay_ints l
  have h3 : PyData.depth (.tuple (l.map PyData.int)) ≤ 64 := by
    simp only [PyData.depth]
    omega
  exact Bool.and_eq_true_iff.mpr ⟨by simp only [PyData.canLay0]; exact h1, decide_eq_true h3⟩
theorem sc_shows_all : FnScope ["show"] ["show"] (defScope (topS 9)) := ⟨rfl, rfl, rfl, by decide +kernel, rfl, by decide +kernel, by decide +kernel⟩
theorem ok_shows_all (T : Txt K mg) : FnOk P w K mg base CX0 1 T.d_shows_all.f T.d_shows_all.fd ["show"] spShowsAll := by
  refine T.d_shows_all.F.ok sc_shows_all (fun vs H Q E h => ?_) (fun cdv A outer s H vs Q E hr h => ?_)
  · obtain ⟨v, l, rfl, _⟩ := h
    rfl
  · obtain ⟨v, s, rfl, ⟨a, kv, ho, nv, rfl, h1, hk, h3⟩, q⟩ := h
    refine ⟨_, (pss_one (ps_ret (pe_and (pe_cmpR op_isN (pe_ix (ixT K) (pv 0) pe_int (fun _ _ => rfl)) pe_non (nomark _)) (pe_and (pe_cmpR op_isN (pe_ix (ixT K) (pv 0) pe_int (fun _ _ => rfl)) pe_non (nomark _)) (pe_one (pe_cmpR (op_eqD hr.units) (pe_ix (ixT K) (pv 0) pe_int (fun _ _ => rfl)) (pe_tup pa_nil) (nomark _))))))), ?_⟩
    obtain ⟨keys, low, high, holes, fac⟩ := s
    refine ⟨_, rfl, _, _, _, _, rfl, rfl, SqT.of h1, rfl, rfl, _, rfl, ?_⟩
    cases low with
    | some l => exact iteF (q H (Same.refl H))
    | none =>
      refine iteT ⟨_, rfl, _, _, _, _, rfl, rfl, SqT.of h1, rfl, rfl, _, rfl, ?_⟩
      cases high with
      | some l => exact iteF (q H (Same.refl H))
      | none =>
        refine iteT ⟨_, rfl, _, _, _, _, rfl, rfl, SqT.of h1, rfl, (by show 0 ≤ sizeLine; decide), fun p hp => ?_⟩
        refine ⟨_, .tuple [], Dp.tup (SqT.of (same_new hp _ _ h3)) (dp_ints holes), Dp.tup (SqT.of upd_same) DpAll.nil, sh_ints holes, rfl, ?_⟩
        have e : PyData.eqv (.tuple (holes.map PyData.int)) (.tuple []) = holes.isEmpty := by
          cases holes with
          | nil => rfl
          | cons h t => rfl
        rw [e]
        exact q _ (same_new hp)
def spSeen : Sp := fun vs H Q _ => ∃ v u s l, vs = [v, u] ∧ ShowO H v s ∧ BagV H u l ∧ l.length ≤ 1000 ∧ ∀ x H', Same H H' → BagV H' x (l.filter fun p => seenO s p.1.2.1) → Q x H'
theorem sc_seen : FnScope ["show", "bag", "row", "count"] ["show", "bag"] (defScope (topS 18)) := ⟨rfl, rfl, rfl, by decide +kernel, rfl, by decide +kernel, by decide +kernel⟩
theorem ok_seen (T : Txt K mg) : FnOk P w K mg base CX0 2 T.d_seen.f T.d_seen.fd ["show", "bag"] spSeen := by
  refine T.d_seen.F.ok sc_seen (fun vs H Q E h => ?_) (fun cdv A outer s H vs Q E hr h => ?_)
  · obtain ⟨v, u, l, m, rfl, _⟩ := h
    rfl
  · obtain ⟨v, u, s, l, rfl, hs, ⟨a, xs, rfl, ha, hp⟩, hl, q⟩ := h
    refine ⟨_, (pss_one (ps_ret (pe_lc (own := [("row", 2), ("count", 3)]) (by rfl) sc_seen.nd (pi_list (pv 1)) (blkOk_by (own := [("row", 2), ("count", 3)]) (N := ["show", "bag", "row", "count"]) (sc := defScope (topS 18)) (by decide +kernel)) (fun _ _ _ _ _ => (pgTup K 2 rfl (pgs_cons (pg_name (i := 2) sc_seen.nd rfl (Or.inl rfl)) (pgs_cons (pg_name (i := 3) sc_seen.nd rfl (Or.inl rfl)) pgs_nil)))) (fun _ _ _ _ _ => pts_one (pt_val (pe_call (ok_shows_key T) (hr.mono (by decide)) (by rfl) T.d_shows_key.g T.d_shows_key.F.kp T.d_shows_key.b .nil pass0 (pa_cons (pv 0) (pa_cons (pe_ix (ixT K) (pv 2) pe_int (fun _ _ => rfl)) pa_nil))))) (fun _ _ _ _ _ => (pe_tup (pa_cons (pv 2) (pa_cons (pv 3) pa_nil))))))), ?_⟩
    refine ⟨.ref a, rfl, a, rfl, ⟨_, SqL.of ha⟩, fun D nD => ?_⟩
    refine lc_fm (F := PairV) (G := PairV) (fun p : Row × Int => if seenO s p.1.2.1 = true then some p else none) nD (SqL.of ha) hp (fun _ _ _ _ => PairV.mono) (fun _ _ _ _ => PairV.mono) (small1000 hl) (fun y x H1 R R' _ fx sm h1 h2 => ?_) fun H1 ys sm hy py => ?_
    · obtain ⟨b, c, rfl, hb, hc⟩ := fx
      refine ⟨b, _, rfl, SqT.of hb, rfl, _, _, rfl, _, _, rfl, rfl, rfl, ?_⟩
      refine ⟨_, rfl, _, rfl, _, _, _, _, rfl, rfl, SqT.of hc, rfl, v, s, y.1.2.1, rfl, hs.mono (tup_of sm), _, rfl, ite2 (fun e => ?_) fun e => ?_⟩
      · refine ⟨_, rfl, _, rfl, (by show 2 ≤ sizeLine; decide), fun t nt => ?_⟩
        exact h1 _ y _ (if_pos e) (same_new nt) ⟨t, c, rfl, upd_same, RowA.mono (tup_new nt) hc⟩
      · exact h2 _ (if_neg e) (Same.refl _)
    · rw [fm_filter] at py
      exact q _ _ sm ⟨D, ys, rfl, hy, py⟩
end
end L2.K21
namespace L2.K21
open PySem PySem.Spec PyProof.Rows
open TdS (RowA ltR SortedOf)
section
variable {P : Program} {w : World} {K : PySem.W.Frag} {mg : PySem.Str → Option Value} {base : Heap}
/-! ### runs and classes -/
theorem filter_lt {α : Type} {p q : α → Bool} {x0 : α} (hp : p x0 = true) (hq : q x0 = false) : ∀ {l : List α}, (∀ x ∈ l, q x = true → p x = true) → x0 ∈ l → (l.filter q).length < (l.filter p).length
  | [], _, h => by simp at h
  | x :: l, sub, h => by
    have le : ∀ {m : List α}, (∀ x ∈ m, q x = true → p x = true) → (m.filter q).length ≤ (m.filter p).length := fun {m} sb => by
      induction m with
      | nil => exact Nat.le_refl _
      | cons y m ih =>
        have ih' := ih fun z hz => sb z (List.mem_cons_of_mem _ hz)
        rw [List.filter_cons, List.filter_cons]
        by_cases hy : q y = true
        · rw [if_pos hy, if_pos (sb y (List.mem_cons_self ..) hy), List.length_cons, List.length_cons]
          omega
        · rw [if_neg hy]
          split
          · rw [List.length_cons]; omega
          · exact ih'
    rw [List.filter_cons, List.filter_cons]
    by_cases e : x = x0
    · subst e
      rw [if_pos hp, if_neg (by rw [hq]; exact Bool.false_ne_true), List.length_cons]
      have := le (m := l) fun z hz => sub z (List.mem_cons_of_mem _ hz)
      omega
    · have ih := filter_lt hp hq (l := l) (fun z hz => sub z (List.mem_cons_of_mem _ hz)) ((List.mem_cons.mp h).resolve_left fun z => e z.symm)
      by_cases hx : q x = true
      · rw [if_pos hx, if_pos (sub x (List.mem_cons_self ..) hx), List.length_cons, List.length_cons]
        omega
      · rw [if_neg hx]
        split
        · rw [List.length_cons]; omega
        · exact ih
theorem holed_mem {hs : List Int} {v : Int} : holed hs v = true ↔ v ∈ hs := by
  unfold holed
  rw [List.any_eq_true]
  constructor
  · rintro ⟨x, hx, e⟩
    rw [← eq_of_beq e]
    exact hx
  · exact fun h => ⟨v, h, beq_self_eq_true v⟩
theorem holed_not {hs : List Int} {v : Int} : holed hs v = false ↔ v ∉ hs := by
  rw [← Bool.not_eq_true, holed_mem]
/-- how many holes lie ahead -/
def ahead (hs : List Int) (st : Int) (v : Int) : Nat := (hs.filter fun h => decide (0 ≤ (h - v) * st)).length
theorem ahead_lt {hs : List Int} {st v : Int} (hst : st = 1 ∨ st = -1) (h : v ∈ hs) : ahead hs st (v + st) < ahead hs st v := by
  refine filter_lt (x0 := v) (decide_eq_true ?_) (decide_eq_false ?_) (fun x _ hx => ?_) h
  · rw [Int.sub_self, Int.zero_mul]
    exact Int.le_refl 0
  · rcases hst with e | e <;> subst e <;> omega
  · have hx' := of_decide_eq_true hx
    refine decide_eq_true ?_
    rcases hst with e | e <;> subst e <;> omega
def slotInt (σ : St) (i : Nat) : Int := match σ[i]? with
  | some (some (.int x)) => x
  | _ => 0
def spStepOut : Sp := fun vs H Q _ => ∃ ho hs v st, vs = [.ref ho, .int v, .int st] ∧ H ho = some (.tup (hs.map V.int)) ∧ (st = 1 ∨ st = -1) ∧
  ∀ n : Nat, holed hs (v + n * st) = false → (∀ m : Nat, m < n → holed hs (v + m * st) = true) → Q (.int (v + n * st)) H
theorem sc_step_out : FnScope ["holes", "value", "step"] ["holes", "value", "step"] (defScope (topS 10)) := ⟨rfl, rfl, rfl, by decide +kernel, rfl, by decide +kernel, by decide +kernel⟩
theorem ok_step_out (T : Txt K mg) : FnOk P w K mg base CX0 1 T.d_step_out.f T.d_step_out.fd ["holes", "value", "step"] spStepOut := by
  refine T.d_step_out.F.ok sc_step_out (fun vs H Q E h => ?_) (fun cdv A outer s H vs Q E hr h => ?_)
  · obtain ⟨_, _, _, _, rfl, _⟩ := h
    rfl
  · obtain ⟨ho, hs, v, st, rfl, hh, hst, q⟩ := h
    refine ⟨_, (pss_cons (ps_while PassesOwn.never (pt_cmpR (inSeq K) (pv 1) (pv 0) (by rfl))
        (pss_one (ps_aug (i := 1) sc_step_out.nd rfl (Or.inl rfl) (pv 2) ip_add)))
      (pss_one (ps_ret (pv 1)))), ?_⟩
    refine while_by (fun σ H' => H' = H ∧ ∃ n : Nat, σ = [some (.ref ho), some (.int (v + n * st)), some (.int st)] ∧ ∀ m : Nat, m < n → holed hs (v + m * st) = true) (fun σ _ => ahead hs st (slotInt σ 1))
      ⟨rfl, 0, by rw [show v + ((0 : Nat) : Int) * st = v by simp]; rfl, fun m h => absurd h (Nat.not_lt_zero _)⟩ (fun σ H' p => ?_) fun σ H' Q1 Q2 hQ p => ?_
    · obtain ⟨rfl, n, rfl, hn⟩ := p
      refine ⟨_, rfl, _, rfl, _, _, rfl, .inr (SqT.of hh), rfl, flat_ints hs, _, rfl, ?_⟩
      have e : inV (.int (v + n * st)) (hs.map V.int) = holed hs (v + n * st) := in_ints _ _
      refine ite2 (fun c => ?_) fun c => ?_
      · have c' : holed hs (v + n * st) = true := e ▸ c
        have e2 : v + (n : Int) * st + st = v + ((n + 1 : Nat) : Int) * st := by
          rw [Int.natCast_add, Int.add_mul]
          omega
        refine ⟨_, rfl, _, rfl, _, _, rfl, rfl, ⟨rfl, n + 1, by rw [← e2]; rfl, fun m hm => ?_⟩, ?_⟩
        · by_cases z : m < n
          · exact hn m z
          · have : m = n := by omega
            rw [this]
            exact c'
        · show ahead hs st (v + n * st + st) < ahead hs st (v + n * st)
          exact ahead_lt hst (holed_mem.mp c')
      · have c' : holed hs (v + n * st) = false := by
          rw [← e]
          exact Bool.eq_false_iff.mpr c
        exact ⟨_, rfl, q n c' hn⟩
    · obtain ⟨a, ha, b, hb, p, xs, e, s1, f1, f2, k, ek, q1⟩ := p
      exact ⟨a, ha, b, hb, p, xs, e, s1, f1, f2, k, ek, hQ _ _ q1⟩
/-! the facts of runs -/
theorem inS_iff {s : Sh} {v : Int} : inS s v = true ↔ (∀ l, s.low = some l → l ≤ v) ∧ (∀ h, s.high = some h → v ≤ h) ∧ v ∉ s.holes := by
  unfold inS
  rw [Bool.and_eq_true, Bool.not_eq_true', Bool.not_eq_true', Bool.or_eq_false_iff, holed_not]
  have e1 : below s.low v = false ↔ ∀ l, s.low = some l → l ≤ v := by
    unfold below
    cases s.low with
    | none => simp
    | some l => simp
  have e2 : above s.high v = false ↔ ∀ l, s.high = some l → v ≤ l := by
    unfold above
    cases s.high with
    | none => simp
    | some l => simp
  rw [e1, e2, and_assoc]
theorem inS_no {s : Sh} {v : Int} : inS s v = false ↔ (∃ l, s.low = some l ∧ v < l) ∨ (∃ h, s.high = some h ∧ h < v) ∨ v ∈ s.holes := by
  constructor
  · intro h
    apply Classical.byContradiction
    intro n
    have : inS s v = true := inS_iff.mpr ⟨fun l e => ?_, fun l e => ?_, fun e => n (.inr (.inr e))⟩
    · rw [h] at this; cases this
    · apply Classical.byContradiction; intro z; exact n (.inl ⟨l, e, by omega⟩)
    · apply Classical.byContradiction; intro z; exact n (.inr (.inl ⟨l, e, by omega⟩))
  · intro h
    cases e : inS s v with
    | false => rfl
    | true =>
      exfalso
      obtain ⟨h1, h2, h3⟩ := inS_iff.mp e
      rcases h with ⟨l, el, z⟩ | ⟨l, el, z⟩ | z
      · have := h1 l el; omega
      · have := h2 l el; omega
      · exact h3 z
theorem pw_head {x y : Int} {l m : List Int} (h : l.Pairwise (· < ·)) (e : l.filter (fun z => decide (x < z)) = y :: m) : y ∈ l ∧ x < y ∧ ∀ z ∈ l, x < z → y ≤ z := by
  have hy : y ∈ l.filter fun z => decide (x < z) := by rw [e]; exact List.mem_cons_self ..
  have hs : (y :: m).Pairwise (· < ·) := by rw [← e]; exact h.filter _
  refine ⟨(List.mem_filter.mp hy).1, of_decide_eq_true (List.mem_filter.mp hy).2, fun z hz hxz => ?_⟩
  have hm : z ∈ y :: m := by rw [← e]; exact List.mem_filter.mpr ⟨hz, decide_eq_true hxz⟩
  rcases List.mem_cons.mp hm with e2 | hm
  · rw [e2]; exact Int.le_refl _
  · exact Int.le_of_lt ((List.pairwise_cons.mp hs).1 z hm)
theorem pw_last {x y : Int} {l m : List Int} (h : l.Pairwise (· < ·)) (e : l.filter (fun z => decide (z < x)) = m ++ [y]) : y ∈ l ∧ y < x ∧ ∀ z ∈ l, z < x → z ≤ y := by
  have hy : y ∈ l.filter fun z => decide (z < x) := by rw [e]; exact List.mem_append_right _ (List.mem_cons_self ..)
  have hs : (m ++ [y]).Pairwise (· < ·) := by rw [← e]; exact h.filter _
  refine ⟨(List.mem_filter.mp hy).1, of_decide_eq_true (List.mem_filter.mp hy).2, fun z hz hxz => ?_⟩
  have hm : z ∈ m ++ [y] := by rw [← e]; exact List.mem_filter.mpr ⟨hz, decide_eq_true hxz⟩
  rcases List.mem_append.mp hm with hm | hm
  · exact Int.le_of_lt ((List.pairwise_append.mp hs).2.2 z hm y (List.mem_cons_self ..))
  · rw [List.mem_singleton.mp hm]; exact Int.le_refl _
theorem fil_nil {p : Int → Bool} {l : List Int} (e : l.filter p = []) : ∀ z ∈ l, p z = false := fun z hz => Bool.eq_false_iff.mpr (List.filter_eq_nil_iff.mp e z hz)
section
variable {s : Sh} (ok : ShOk s) {x : Int}
include ok
theorem top_in_nil (hx : inS s x = true) (e : s.holes.filter (fun z => decide (x < z)) = []) : Td.IsTop (inS s) x s.high := by
  obtain ⟨h1, h2, h3⟩ := inS_iff.mp hx
  have key : ∀ y, x ≤ y → (∀ h, s.high = some h → y ≤ h) → inS s y = true := fun y hy hh => by
    refine inS_iff.mpr ⟨fun l el => Int.le_trans (h1 l el) hy, hh, fun hm => ?_⟩
    have := of_decide_eq_false (fil_nil e y hm)
    have : y = x := by omega
    exact h3 (this ▸ hm)
  cases hh : s.high with
  | none =>
    intro y hy
    rw [hx]
    exact key y hy fun h e => by rw [hh] at e; cases e
  | some h =>
    refine ⟨h2 h hh, fun y hy hyh => ?_, ?_⟩
    · rw [hx]
      exact key y hy fun h' e => by rw [hh] at e; cases e; exact hyh
    · rw [hx, inS_no.mpr (.inr (.inl ⟨h, hh, by omega⟩))]
      exact Bool.false_ne_true
theorem top_in_cons (hx : inS s x = true) {y : Int} {m : List Int} (e : s.holes.filter (fun z => decide (x < z)) = y :: m) : Td.IsTop (inS s) x (some (y - 1)) := by
  obtain ⟨h1, h2, h3⟩ := inS_iff.mp hx
  obtain ⟨hy, hxy, least⟩ := pw_head ok.up e
  refine ⟨by omega, fun z hz hzy => ?_, ?_⟩
  · rw [hx]
    refine inS_iff.mpr ⟨fun l el => Int.le_trans (h1 l el) hz, fun h eh => ?_, fun hm => ?_⟩
    · have := ok.hi h eh y hy
      omega
    · by_cases q : x < z
      · have := least z hm q
        omega
      · have : z = x := by omega
        exact h3 (this ▸ hm)
  · rw [hx, inS_no.mpr (.inr (.inr (by rw [show y - 1 + 1 = y by omega]; exact hy)))]
    exact Bool.false_ne_true
theorem top_low {l : Int} (hl : s.low = some l) (hx : x < l) : Td.IsTop (inS s) x (some (l - 1)) := by
  have no : ∀ z, z < l → inS s z = false := fun z hz => inS_no.mpr (.inl ⟨l, hl, hz⟩)
  refine ⟨by omega, fun z _ hz => by rw [no z (by omega), no x hx], ?_⟩
  rw [no x hx, inS_iff.mpr ⟨fun l' e => by rw [hl] at e; cases e; omega, fun h e => by have := ok.lh l h hl e; omega, fun hm => by have := ok.lo l hl _ hm; omega⟩]
  exact fun e => by cases e
theorem top_high {h : Int} (hh : s.high = some h) (hx : h < x) : Td.IsTop (inS s) x none := fun z hz => by
  rw [inS_no.mpr (.inr (.inl ⟨h, hh, hx⟩)), inS_no.mpr (.inr (.inl ⟨h, hh, by omega⟩))]
theorem top_hole (hx : inS s x = false) (hl : below s.low x = false) (hh : above s.high x = false) {n : Nat} (h1 : holed s.holes (x + n * 1) = false) (h2 : ∀ m : Nat, m < n → holed s.holes (x + m * 1) = true) : Td.IsTop (inS s) x (some (x + n * 1 - 1)) := by
  have hm0 : x ∈ s.holes := by
    rcases inS_no.mp hx with ⟨l, e, z⟩ | ⟨l, e, z⟩ | z
    · rw [e] at hl; exact absurd z (of_decide_eq_false hl)
    · rw [e] at hh; exact absurd z (of_decide_eq_false hh)
    · exact z
  have n0 : n ≠ 0 := fun z => by
    subst z
    have := holed_not.mp h1
    exact this (by rw [show x + ((0 : Nat) : Int) * 1 = x by omega]; exact hm0)
  have hz : ∀ z, x ≤ z → z < x + n → z ∈ s.holes := fun z a b => by
    have := h2 (z - x).toNat (by omega)
    rw [holed_mem] at this
    rwa [show x + (((z - x).toNat : Nat) : Int) * 1 = z by omega] at this
  refine ⟨by omega, fun z a b => ?_, ?_⟩
  · rw [hx, inS_no.mpr (.inr (.inr (hz z a (by omega))))]
  · have e1 : inS s (x + n * 1 - 1 + 1) = true := by
      rw [show x + (n : Int) * 1 - 1 + 1 = x + n * 1 by omega]
      refine inS_iff.mpr ⟨fun l e => ?_, fun h e => ?_, holed_not.mp h1⟩
      · have := ok.lo l e x hm0; omega
      · have := ok.hi h e _ (hz (x + n - 1) (by omega) (by omega)); omega
    rw [hx, e1]
    exact fun e => by cases e
theorem bot_in_nil (hx : inS s x = true) (e : s.holes.filter (fun z => decide (z < x)) = []) : Td.IsBot (inS s) x s.low := by
  obtain ⟨h1, h2, h3⟩ := inS_iff.mp hx
  have key : ∀ y, y ≤ x → (∀ h, s.low = some h → h ≤ y) → inS s y = true := fun y hy hh => by
    refine inS_iff.mpr ⟨hh, fun l el => Int.le_trans hy (h2 l el), fun hm => ?_⟩
    have := of_decide_eq_false (fil_nil e y hm)
    have : y = x := by omega
    exact h3 (this ▸ hm)
  cases hh : s.low with
  | none =>
    intro y hy
    rw [hx]
    exact key y hy fun h e => by rw [hh] at e; cases e
  | some h =>
    refine ⟨h1 h hh, fun y hy hyh => ?_, ?_⟩
    · rw [hx]
      exact key y hyh fun h' e => by rw [hh] at e; cases e; exact hy
    · rw [hx, inS_no.mpr (.inl ⟨h, hh, by omega⟩)]
      exact Bool.false_ne_true
theorem bot_in_snoc (hx : inS s x = true) {y : Int} {m : List Int} (e : s.holes.filter (fun z => decide (z < x)) = m ++ [y]) : Td.IsBot (inS s) x (some (y + 1)) := by
  obtain ⟨h1, h2, h3⟩ := inS_iff.mp hx
  obtain ⟨hy, hxy, least⟩ := pw_last ok.up e
  refine ⟨by omega, fun z hz hzy => ?_, ?_⟩
  · rw [hx]
    refine inS_iff.mpr ⟨fun l eh => ?_, fun h eh => Int.le_trans hzy (h2 h eh), fun hm => ?_⟩
    · have := ok.lo l eh y hy
      omega
    · by_cases q : z < x
      · have := least z hm q
        omega
      · have : z = x := by omega
        exact h3 (this ▸ hm)
  · rw [hx, inS_no.mpr (.inr (.inr (by rw [show y + 1 - 1 = y by omega]; exact hy)))]
    exact Bool.false_ne_true
theorem bot_high {h : Int} (hh : s.high = some h) (hx : h < x) : Td.IsBot (inS s) x (some (h + 1)) := by
  have no : ∀ z, h < z → inS s z = false := fun z hz => inS_no.mpr (.inr (.inl ⟨h, hh, hz⟩))
  refine ⟨by omega, fun z hz _ => by rw [no z (by omega), no x hx], ?_⟩
  rw [no x hx, inS_iff.mpr ⟨fun l e => by have := ok.lh l h e hh; omega, fun l' e => by rw [hh] at e; cases e; omega, fun hm => by have := ok.hi h hh _ hm; omega⟩]
  exact fun e => by cases e
theorem bot_low {l : Int} (hl : s.low = some l) (hx : x < l) : Td.IsBot (inS s) x none := fun z hz => by
  rw [inS_no.mpr (.inl ⟨l, hl, hx⟩), inS_no.mpr (.inl ⟨l, hl, by omega⟩)]
theorem bot_hole (hx : inS s x = false) (hl : below s.low x = false) (hh : above s.high x = false) {n : Nat} (h1 : holed s.holes (x + n * (-1)) = false) (h2 : ∀ m : Nat, m < n → holed s.holes (x + m * (-1)) = true) : Td.IsBot (inS s) x (some (x + n * (-1) + 1)) := by
  have hm0 : x ∈ s.holes := by
    rcases inS_no.mp hx with ⟨l, e, z⟩ | ⟨l, e, z⟩ | z
    · rw [e] at hl; exact absurd z (of_decide_eq_false hl)
    · rw [e] at hh; exact absurd z (of_decide_eq_false hh)
    · exact z
  have n0 : n ≠ 0 := fun z => by
    subst z
    have := holed_not.mp h1
    exact this (by rw [show x + ((0 : Nat) : Int) * (-1) = x by omega]; exact hm0)
  have hz : ∀ z, z ≤ x → x - n < z → z ∈ s.holes := fun z a b => by
    have := h2 (x - z).toNat (by omega)
    rw [holed_mem] at this
    rwa [show x + (((x - z).toNat : Nat) : Int) * (-1) = z by omega] at this
  refine ⟨by omega, fun z a b => ?_, ?_⟩
  · rw [hx, inS_no.mpr (.inr (.inr (hz z b (by omega))))]
  · have e1 : inS s (x + n * (-1) + 1 - 1) = true := by
      rw [show x + (n : Int) * (-1) + 1 - 1 = x + n * (-1) by omega]
      refine inS_iff.mpr ⟨fun l e => ?_, fun h e => ?_, holed_not.mp h1⟩
      · have := ok.lo l e _ (hz (x - n + 1) (by omega) (by omega)); omega
      · have := ok.hi h e x hm0; omega
    rw [hx, e1]
    exact fun e => by cases e
end
end
end L2.K21
namespace L2.K21
open PySem PySem.Spec PyProof.Rows
open TdS (RowA ltR SortedOf)
section
variable {P : Program} {w : World} {K : PySem.W.Frag} {mg : PySem.Str → Option Value} {base : Heap}
def spRunTop : Sp := fun vs H Q _ => ∃ v s x, vs = [v, .int x] ∧ ShowV H v s ∧ ShOk s ∧ ∀ H', Same H H' → Q (optI (Td.topOf (inS s) x)) H'
theorem sc_run_top : FnScope ["show", "value", "low", "high", "holes", "above", "hole"] ["show", "value"] (defScope (topS 11)) := ⟨rfl, rfl, rfl, by decide +kernel, rfl, by decide +kernel, by decide +kernel⟩
theorem ok_run_top (T : Txt K mg) : FnOk P w K mg base CX0 3 T.d_run_top.f T.d_run_top.fd ["show", "value"] spRunTop := by
  refine T.d_run_top.F.ok sc_run_top (fun vs H Q E h => ?_) (fun cdv A outer s H vs Q E hr h => ?_)
  · obtain ⟨_, _, _, rfl, _⟩ := h
    rfl
  · obtain ⟨v, s, x, rfl, ⟨a, kv, ho, nv, rfl, h1, hk, h3⟩, ok, q⟩ := h
    have hs : ShowV H (.ref a) s := ⟨a, kv, ho, nv, rfl, h1, hk, h3⟩
    have fin : ∀ r H', Same H H' → Td.IsTop (inS s) x r → Q (optI r) H' := fun r H' sm t => by
      rw [← Td.topOf_eq t]
      exact q H' sm
    refine ⟨_, (pss_cons (ps_par3 (i := 2) (j := 3) (l := 4) (by rfl) sc_run_top.nd rfl rfl rfl (by decide) (by decide) (by decide) rfl rfl rfl (pa_cons (pe_ix (ixT K) (pv 0) pe_int (fun _ _ => rfl)) (pa_cons (pe_ix (ixT K) (pv 0) pe_int (fun _ _ => rfl)) (pa_cons (pe_ix (ixT K) (pv 0) pe_int (fun _ _ => rfl)) pa_nil))) (by rfl))
      (pss_cons (ps_if (pt_val (pe_call (ok_is_shown T) (hr.mono (by decide)) (by rfl) T.d_is_shown.g T.d_is_shown.F.kp T.d_is_shown.b .nil pass0 (pa_cons (pv 0) (pa_cons (pv 1) pa_nil))))
        (pss_cons (ps_setLc (i := 5) (own := [("hole", 6)]) (by rfl) sc_run_top.nd rfl rfl (sw_true rfl rfl rfl (by decide +kernel)) (pi_tup (pv 4)) (blkOk_by (own := [("hole", 6)]) (N := ["show", "value", "low", "high", "holes", "above", "hole"]) (sc := defScope (topS 11)) (by decide +kernel)) (fun _ _ _ _ _ => (pg_name (i := 6) sc_run_top.nd rfl (Or.inl rfl))) (fun _ _ _ _ _ => pts_one (pt_cmpR op_gt (pv 6) (pv 1) (nomark _))) (fun _ _ _ _ _ => (pv 6)))
        (pss_one (ps_ret (pe_ifExp (pt_truth (pv 5) (by intro _; rfl)) (pe_op op_sub (pe_ix (ixL K) (pv 5) pe_int (fun _ _ => rfl)) pe_int) (pv 3)))))
        pss_nil)
      (pss_cons (ps_if (PW.pt (pw_and (pt_cmpR op_notN (pv 2) pe_non (nomark _)) (pw_and1 (pt_cmpR op_lt (pv 1) (pv 2) (nomark _)))))
        (pss_one (ps_ret (pe_op op_sub (pv 2) pe_int)))
        pss_nil)
      (pss_cons (ps_if (PW.pt (pw_and (pt_cmpR op_notN (pv 3) pe_non (nomark _)) (pw_and1 (pt_cmpR op_gt (pv 1) (pv 3) (nomark _)))))
        (pss_one (ps_ret pe_non))
        pss_nil)
      (pss_one (ps_ret (pe_op op_sub (pe_call (ok_step_out T) (hr.mono (by decide)) (by rfl) T.d_step_out.g T.d_step_out.F.kp T.d_step_out.b .nil pass0 (pa_cons (pv 4) (pa_cons (pv 1) (pa_cons pe_int pa_nil)))) pe_int))))))), ?_⟩
    refine ⟨_, rfl, _, _, _, _, rfl, rfl, SqT.of h1, rfl, _, rfl, _, _, _, _, rfl, rfl, SqT.of h1, rfl, _, rfl, _, _, _, _, rfl, rfl, SqT.of h1, rfl, _, _, _, rfl, ?_⟩
    refine ⟨_, rfl, _, rfl, _, s, x, rfl, hs, _, rfl, ite2 (fun c => ?_) fun c => ?_⟩
    · refine ⟨_, rfl, ho, rfl, ⟨_, SqT.of h3⟩, fun D nD => ?_⟩
      refine lc_fmT (F := IntV) (G := IntV) (fun y : Int => if decide (x < y) = true then some y else none) nD (SqT.of h3) (pair_ints _) (fun _ _ _ _ => IntV.mono) (fun _ _ _ _ => IntV.mono) (small1000 ok.few) (fun y z H1 R R' _ fx sm r1 r2 => ?_) fun H1 ys sm hy py => ?_
      · cases (show z = .int y from fx)
        refine ⟨rfl, _, rfl, _, rfl, _, _, rfl, rfl, _, rfl, ite2 (fun e => ?_) fun e => ?_⟩
        · exact ⟨_, rfl, r1 _ y _ (if_pos e) (Same.refl _) rfl⟩
        · exact r2 _ (if_neg e) (Same.refl _)
      · rw [fm_filter] at py
        have e := ints_pair py
        subst e
        refine ⟨_, rfl, _, .inl ⟨_, SqL.of hy, rfl⟩, ?_⟩
        cases hf : s.holes.filter (fun y => decide (x < y)) with
        | nil => exact iteF ⟨_, rfl, fin _ _ sm (top_in_nil ok c hf)⟩
        | cons y m =>
          rw [hf] at hy
          exact iteT ⟨_, rfl, _, _, _, _, rfl, rfl, SqL.of hy, atI_nat (j := 0) rfl, _, _, rfl, rfl, fin (some (y - 1)) _ sm (top_in_cons ok c hf)⟩
    · have c' : inS s x = false := Bool.eq_false_iff.mpr c
      have rest : ∀ (hl : below s.low x = false) (hh : above s.high x = false) (n : Nat), holed s.holes (x + n * 1) = false → (∀ m : Nat, m < n → holed s.holes (x + m * 1) = true) → Q (.int (x + n * 1 - 1)) H := fun hl hh n g1 g2 =>
        fin (some _) H (Same.refl H) (top_hole ok c' hl hh g1 g2)
      obtain ⟨keys, low, high, holes, fac⟩ := s
      refine ⟨_, rfl, rfl, _, rfl, ?_⟩
      cases low with
      | none =>
        refine iteF (iteF ?_)
        refine ⟨_, rfl, rfl, _, rfl, ?_⟩
        cases high with
        | none =>
          refine iteF (iteF ?_)
          exact ⟨_, rfl, _, rfl, ho, holes, x, 1, rfl, h3, .inl rfl, fun n g1 g2 => ⟨_, _, rfl, rfl, rest rfl rfl n g1 g2⟩⟩
        | some h =>
          refine iteT ⟨_, rfl, _, rfl, _, _, rfl, rfl, _, rfl, ite2 (fun d => ?_) fun d => ?_⟩
          · exact fin none H (Same.refl H) (top_high ok rfl (of_decide_eq_true d))
          · exact ⟨_, rfl, _, rfl, ho, holes, x, 1, rfl, h3, .inl rfl, fun n g1 g2 => ⟨_, _, rfl, rfl, rest rfl (Bool.eq_false_iff.mpr d) n g1 g2⟩⟩
      | some l =>
        refine iteT ⟨_, rfl, _, rfl, _, _, rfl, rfl, _, rfl, ite2 (fun b => ?_) fun b => ?_⟩
        · exact ⟨_, rfl, _, _, rfl, rfl, fin (some (l - 1)) H (Same.refl H) (top_low ok rfl (of_decide_eq_true b))⟩
        · refine ⟨_, rfl, rfl, _, rfl, ?_⟩
          cases high with
          | none =>
            refine iteF (iteF ?_)
            exact ⟨_, rfl, _, rfl, ho, holes, x, 1, rfl, h3, .inl rfl, fun n g1 g2 => ⟨_, _, rfl, rfl, rest (Bool.eq_false_iff.mpr b) rfl n g1 g2⟩⟩
          | some h =>
            refine iteT ⟨_, rfl, _, rfl, _, _, rfl, rfl, _, rfl, ite2 (fun d => ?_) fun d => ?_⟩
            · exact fin none H (Same.refl H) (top_high ok rfl (of_decide_eq_true d))
            · exact ⟨_, rfl, _, rfl, ho, holes, x, 1, rfl, h3, .inl rfl, fun n g1 g2 => ⟨_, _, rfl, rfl, rest (Bool.eq_false_iff.mpr b) (Bool.eq_false_iff.mpr d) n g1 g2⟩⟩
def spRunBottom : Sp := fun vs H Q _ => ∃ v s x, vs = [v, .int x] ∧ ShowV H v s ∧ ShOk s ∧ ∀ H', Same H H' → Q (optI (Td.botOf (inS s) x)) H'
theorem sc_run_bottom : FnScope ["show", "value", "low", "high", "holes", "below", "hole"] ["show", "value"] (defScope (topS 12)) := ⟨rfl, rfl, rfl, by decide +kernel, rfl, by decide +kernel, by decide +kernel⟩
theorem ok_run_bottom (T : Txt K mg) : FnOk P w K mg base CX0 3 T.d_run_bottom.f T.d_run_bottom.fd ["show", "value"] spRunBottom := by
  refine T.d_run_bottom.F.ok sc_run_bottom (fun vs H Q E h => ?_) (fun cdv A outer s H vs Q E hr h => ?_)
  · obtain ⟨_, _, _, rfl, _⟩ := h
    rfl
  · obtain ⟨v, s, x, rfl, ⟨a, kv, ho, nv, rfl, h1, hk, h3⟩, ok, q⟩ := h
    have hs : ShowV H (.ref a) s := ⟨a, kv, ho, nv, rfl, h1, hk, h3⟩
    have fin : ∀ r H', Same H H' → Td.IsBot (inS s) x r → Q (optI r) H' := fun r H' sm t => by
      rw [← Td.botOf_eq t]
      exact q H' sm
    refine ⟨_, (pss_cons (ps_par3 (i := 2) (j := 3) (l := 4) (by rfl) sc_run_bottom.nd rfl rfl rfl (by decide) (by decide) (by decide) rfl rfl rfl (pa_cons (pe_ix (ixT K) (pv 0) pe_int (fun _ _ => rfl)) (pa_cons (pe_ix (ixT K) (pv 0) pe_int (fun _ _ => rfl)) (pa_cons (pe_ix (ixT K) (pv 0) pe_int (fun _ _ => rfl)) pa_nil))) (by rfl))
      (pss_cons (ps_if (pt_val (pe_call (ok_is_shown T) (hr.mono (by decide)) (by rfl) T.d_is_shown.g T.d_is_shown.F.kp T.d_is_shown.b .nil pass0 (pa_cons (pv 0) (pa_cons (pv 1) pa_nil))))
        (pss_cons (ps_setLc (i := 5) (own := [("hole", 6)]) (by rfl) sc_run_bottom.nd rfl rfl (sw_true rfl rfl rfl (by decide +kernel)) (pi_tup (pv 4)) (blkOk_by (own := [("hole", 6)]) (N := ["show", "value", "low", "high", "holes", "below", "hole"]) (sc := defScope (topS 12)) (by decide +kernel)) (fun _ _ _ _ _ => (pg_name (i := 6) sc_run_bottom.nd rfl (Or.inl rfl))) (fun _ _ _ _ _ => pts_one (pt_cmpR op_lt (pv 6) (pv 1) (nomark _))) (fun _ _ _ _ _ => (pv 6)))
        (pss_one (ps_ret (pe_ifExp (pt_truth (pv 5) (by intro _; rfl)) (pe_op op_add (pe_ix (ixL K) (pv 5) (pe_un un_neg pe_int) (fun _ _ => rfl)) pe_int) (pv 2)))))
        pss_nil)
      (pss_cons (ps_if (PW.pt (pw_and (pt_cmpR op_notN (pv 3) pe_non (nomark _)) (pw_and1 (pt_cmpR op_gt (pv 1) (pv 3) (nomark _)))))
        (pss_one (ps_ret (pe_op op_add (pv 3) pe_int)))
        pss_nil)
      (pss_cons (ps_if (PW.pt (pw_and (pt_cmpR op_notN (pv 2) pe_non (nomark _)) (pw_and1 (pt_cmpR op_lt (pv 1) (pv 2) (nomark _)))))
        (pss_one (ps_ret pe_non))
        pss_nil)
      (pss_one (ps_ret (pe_op op_add (pe_call (ok_step_out T) (hr.mono (by decide)) (by rfl) T.d_step_out.g T.d_step_out.F.kp T.d_step_out.b .nil pass0 (pa_cons (pv 4) (pa_cons (pv 1) (pa_cons (pe_un un_neg pe_int) pa_nil)))) pe_int))))))), ?_⟩
    refine ⟨_, rfl, _, _, _, _, rfl, rfl, SqT.of h1, rfl, _, rfl, _, _, _, _, rfl, rfl, SqT.of h1, rfl, _, rfl, _, _, _, _, rfl, rfl, SqT.of h1, rfl, _, _, _, rfl, ?_⟩
    refine ⟨_, rfl, _, rfl, _, s, x, rfl, hs, _, rfl, ite2 (fun c => ?_) fun c => ?_⟩
    · refine ⟨_, rfl, ho, rfl, ⟨_, SqT.of h3⟩, fun D nD => ?_⟩
      refine lc_fmT (F := IntV) (G := IntV) (fun y : Int => if decide (y < x) = true then some y else none) nD (SqT.of h3) (pair_ints _) (fun _ _ _ _ => IntV.mono) (fun _ _ _ _ => IntV.mono) (small1000 ok.few) (fun y z H1 R R' _ fx sm r1 r2 => ?_) fun H1 ys sm hy py => ?_
      · cases (show z = .int y from fx)
        refine ⟨rfl, _, rfl, _, rfl, _, _, rfl, rfl, _, rfl, ite2 (fun e => ?_) fun e => ?_⟩
        · exact ⟨_, rfl, r1 _ y _ (if_pos e) (Same.refl _) rfl⟩
        · exact r2 _ (if_neg e) (Same.refl _)
      · rw [fm_filter] at py
        have e := ints_pair py
        subst e
        refine ⟨_, rfl, _, .inl ⟨_, SqL.of hy, rfl⟩, ?_⟩
        rcases List.eq_nil_or_concat (s.holes.filter (fun y => decide (y < x))) with hf | ⟨m, y, hf⟩
        · rw [hf]
          exact iteF ⟨_, rfl, fin _ _ sm (bot_in_nil ok c hf)⟩
        · rw [List.concat_eq_append] at hf
          rw [hf, List.map_append] at hy
          have e1 : (!((List.filter (fun y => decide (y < x)) s.holes).map V.int).isEmpty) = true := by
            rw [hf]
            simp
          rw [e1]
          exact iteT ⟨_, rfl, _, rfl, _, _, _, _, rfl, rfl, SqL.of hy, atI_last _ _, _, _, rfl, rfl, fin (some (y + 1)) _ sm (bot_in_snoc ok c hf)⟩
    · have c' : inS s x = false := Bool.eq_false_iff.mpr c
      have rest : ∀ (hl : below s.low x = false) (hh : above s.high x = false) (n : Nat), holed s.holes (x + n * (-1)) = false → (∀ m : Nat, m < n → holed s.holes (x + m * (-1)) = true) → Q (.int (x + n * (-1) + 1)) H := fun hl hh n g1 g2 =>
        fin (some _) H (Same.refl H) (bot_hole ok c' hl hh g1 g2)
      obtain ⟨keys, low, high, holes, fac⟩ := s
      refine ⟨_, rfl, rfl, _, rfl, ?_⟩
      cases high with
      | none =>
        refine iteF (iteF ?_)
        refine ⟨_, rfl, rfl, _, rfl, ?_⟩
        cases low with
        | none =>
          refine iteF (iteF ?_)
          exact ⟨_, rfl, _, rfl, _, rfl, ho, holes, x, -1, rfl, h3, .inr rfl, fun n g1 g2 => ⟨_, _, rfl, rfl, rest rfl rfl n g1 g2⟩⟩
        | some h =>
          refine iteT ⟨_, rfl, _, rfl, _, _, rfl, rfl, _, rfl, ite2 (fun d => ?_) fun d => ?_⟩
          · exact fin none H (Same.refl H) (bot_low ok rfl (of_decide_eq_true d))
          · exact ⟨_, rfl, _, rfl, _, rfl, ho, holes, x, -1, rfl, h3, .inr rfl, fun n g1 g2 => ⟨_, _, rfl, rfl, rest (Bool.eq_false_iff.mpr d) rfl n g1 g2⟩⟩
      | some l =>
        refine iteT ⟨_, rfl, _, rfl, _, _, rfl, rfl, _, rfl, ite2 (fun b => ?_) fun b => ?_⟩
        · exact ⟨_, rfl, _, _, rfl, rfl, fin (some (l + 1)) H (Same.refl H) (bot_high ok rfl (of_decide_eq_true b))⟩
        · refine ⟨_, rfl, rfl, _, rfl, ?_⟩
          cases low with
          | none =>
            refine iteF (iteF ?_)
            exact ⟨_, rfl, _, rfl, _, rfl, ho, holes, x, -1, rfl, h3, .inr rfl, fun n g1 g2 => ⟨_, _, rfl, rfl, rest rfl (Bool.eq_false_iff.mpr b) n g1 g2⟩⟩
          | some h =>
            refine iteT ⟨_, rfl, _, rfl, _, _, rfl, rfl, _, rfl, ite2 (fun d => ?_) fun d => ?_⟩
            · exact fin none H (Same.refl H) (bot_low ok rfl (of_decide_eq_true d))
            · exact ⟨_, rfl, _, rfl, _, rfl, ho, holes, x, -1, rfl, h3, .inr rfl, fun n g1 g2 => ⟨_, _, rfl, rfl, rest (Bool.eq_false_iff.mpr d) (Bool.eq_false_iff.mpr b) n g1 g2⟩⟩
end
end L2.K21
namespace L2.K21
open PySem PySem.Spec PyProof.Rows
open TdS (RowA ltR SortedOf)
section
variable {P : Program} {w : World} {K : PySem.W.Frag} {mg : PySem.Str → Option Value} {base : Heap}
theorem cls_in {fac : Int} {v : Int} {a b : Option Int} (h : fac ≠ 0) : Td.classOf fac true v a b = some v := by
  unfold Td.classOf
  rw [if_pos ⟨h, rfl⟩]
theorem cls_some {fac : Int} {s : Bool} {v f : Int} {b : Option Int} (n : ¬ (fac ≠ 0 ∧ s = true)) : Td.classOf fac s v (some f) b = some f := by
  unfold Td.classOf
  rw [if_neg n]
theorem cls_last {v : Int} {b : Option Int} : Td.classOf 0 true v none b = some (b.getD 0) := by
  unfold Td.classOf
  rw [if_neg (fun z => z.1 rfl)]
  rfl
theorem cls_none {fac : Int} {v : Int} {b : Option Int} : Td.classOf fac false v none b = none := by
  unfold Td.classOf
  rw [if_neg (fun z => by cases z.2)]
  rfl
def spClassOf : Sp := fun vs H Q _ => ∃ v s x a b, vs = [v, .int x, optI a, optI b] ∧ ShowV H v s ∧ Q (optI (Td.classOf s.fac (inS s x) x a b)) H
theorem sc_class_of : FnScope ["show", "value", "first", "last"] ["show", "value", "first", "last"] (defScope (topS 13)) := ⟨rfl, rfl, rfl, by decide +kernel, rfl, by decide +kernel, by decide +kernel⟩
theorem ok_class_of (T : Txt K mg) : FnOk P w K mg base CX0 3 T.d_class_of.f T.d_class_of.fd ["show", "value", "first", "last"] spClassOf := by
  refine T.d_class_of.F.ok sc_class_of (fun vs H Q E h => ?_) (fun cdv A outer s H vs Q E hr h => ?_)
  · obtain ⟨_, _, _, _, _, rfl, _⟩ := h
    rfl
  · obtain ⟨v, s, x, a, b, rfl, hs, q⟩ := h
    refine ⟨_, (pss_cons (ps_if (PW.pt (pw_and (pt_cmpR op_ne (pe_ix (ixT K) (pv 0) pe_int (fun _ _ => rfl)) pe_int (nomark _)) (pw_and1 (pt_val (pe_call (ok_is_shown T) (hr.mono (by decide)) (by rfl) T.d_is_shown.g T.d_is_shown.F.kp T.d_is_shown.b .nil pass0 (pa_cons (pv 0) (pa_cons (pv 1) pa_nil)))))))
        (pss_one (ps_ret (pv 1)))
        pss_nil)
      (pss_cons (ps_if (pt_cmpR op_notN (pv 2) pe_non (nomark _))
        (pss_one (ps_ret (pv 2)))
        pss_nil)
      (pss_cons (ps_if (pt_not (pt_val (pe_call (ok_is_shown T) (hr.mono (by decide)) (by rfl) T.d_is_shown.g T.d_is_shown.F.kp T.d_is_shown.b .nil pass0 (pa_cons (pv 0) (pa_cons (pv 1) pa_nil)))))
        (pss_one (ps_ret pe_non))
        pss_nil)
      (pss_one (ps_ret (pe_ifExp (pt_cmpR op_notN (pv 3) pe_non (nomark _)) (pv 3) pe_int)))))), ?_⟩
    obtain ⟨p, kv, ho, nv, rfl, h1, hk, h3⟩ := id hs
    have no : ∀ c : inS s x = false, ¬ (s.fac ≠ 0 ∧ inS s x = true) := fun c z => by
      rw [c] at z
      cases z.2
    refine ⟨_, rfl, _, _, _, _, rfl, rfl, SqT.of h1, rfl, rfl, _, rfl, ?_⟩
    cases hf : (!decide (V.int s.fac = V.int 0)) with
    | true =>
      have f0 : s.fac ≠ 0 := fun z => by rw [z] at hf; cases hf
      refine iteT ⟨_, rfl, _, rfl, _, s, x, rfl, hs, _, rfl, ?_⟩
      refine ite2 (fun c => ?_) fun c => ?_
      · rw [c, cls_in f0] at q
        exact ⟨_, rfl, q⟩
      · have c' := Bool.eq_false_iff.mpr c
        cases a with
        | some f =>
          rw [cls_some (no c')] at q
          exact ⟨_, rfl, rfl, _, rfl, iteT ⟨_, rfl, q⟩⟩
        | none =>
          refine ⟨_, rfl, rfl, _, rfl, iteF ⟨_, rfl, _, rfl, _, s, x, rfl, hs, _, rfl, ?_⟩⟩
          rw [c', cls_none] at q
          rw [c']
          exact iteT q
    | false =>
      have f0 : s.fac = 0 := by
        cases hd : decide (V.int s.fac = V.int 0) with
        | true => exact V.int.inj (of_decide_eq_true hd)
        | false => rw [hd] at hf; cases hf
      refine iteF (iteF ?_)
      rw [f0] at q
      cases a with
      | some f =>
        rw [cls_some (fun z => z.1 rfl)] at q
        exact ⟨_, rfl, rfl, _, rfl, iteT ⟨_, rfl, q⟩⟩
      | none =>
        refine ⟨_, rfl, rfl, _, rfl, iteF ⟨_, rfl, _, rfl, _, s, x, rfl, hs, _, rfl, ?_⟩⟩
        cases c : inS s x with
        | false =>
          rw [c, cls_none] at q
          exact iteT q
        | true =>
          rw [c, cls_last] at q
          refine iteF ?_
          cases b with
          | none => exact ⟨_, rfl, rfl, _, rfl, iteF q⟩
          | some b => exact ⟨_, rfl, rfl, _, rfl, iteT ⟨_, rfl, q⟩⟩
def spClassAbove : Sp := fun vs H Q _ => ∃ v s x, vs = [v, .int x] ∧ ShowV H v s ∧ ShOk s ∧ ∀ H', Same H H' → Q (optI (Td.clsA s.fac (inS s) x)) H'
theorem sc_class_above : FnScope ["show", "value"] ["show", "value"] (defScope (topS 14)) := ⟨rfl, rfl, rfl, by decide +kernel, rfl, by decide +kernel, by decide +kernel⟩
theorem ok_class_above (T : Txt K mg) : FnOk P w K mg base CX0 4 T.d_class_above.f T.d_class_above.fd ["show", "value"] spClassAbove := by
  refine T.d_class_above.F.ok sc_class_above (fun vs H Q E h => ?_) (fun cdv A outer s H vs Q E hr h => ?_)
  · obtain ⟨_, _, _, rfl, _⟩ := h
    rfl
  · obtain ⟨v, s, x, rfl, hs, ok, q⟩ := h
    refine ⟨_, (pss_one (ps_ret (pe_call (ok_class_of T) (hr.mono (by decide)) (by rfl) T.d_class_of.g T.d_class_of.F.kp T.d_class_of.b .nil pass0 (pa_cons (pv 0) (pa_cons (pv 1) (pa_cons (pe_call (ok_run_top T) (hr.mono (by decide)) (by rfl) T.d_run_top.g T.d_run_top.F.kp T.d_run_top.b .nil pass0 (pa_cons (pv 0) (pa_cons (pv 1) pa_nil))) (pa_cons (pe_call (ok_run_bottom T) (hr.mono (by decide)) (by rfl) T.d_run_bottom.g T.d_run_bottom.F.kp T.d_run_bottom.b .nil pass0 (pa_cons (pv 0) (pa_cons (pv 1) pa_nil))) pa_nil))))))), ?_⟩
    refine ⟨_, rfl, _, rfl, _, rfl, _, rfl, v, s, x, rfl, hs, ok, fun H1 s1 => ?_⟩
    refine ⟨_, rfl, _, rfl, v, s, x, rfl, hs.mono (tup_of s1), ok, fun H2 s2 => ?_⟩
    exact ⟨v, s, x, _, _, rfl, hs.mono (tup_of (s1.trans s2)), q _ (s1.trans s2)⟩
def spClassBelow : Sp := fun vs H Q _ => ∃ v s x, vs = [v, .int x] ∧ ShowV H v s ∧ ShOk s ∧ ∀ H', Same H H' → Q (optI (Td.clsB s.fac (inS s) x)) H'
theorem sc_class_below : FnScope ["show", "value"] ["show", "value"] (defScope (topS 15)) := ⟨rfl, rfl, rfl, by decide +kernel, rfl, by decide +kernel, by decide +kernel⟩
theorem ok_class_below (T : Txt K mg) : FnOk P w K mg base CX0 4 T.d_class_below.f T.d_class_below.fd ["show", "value"] spClassBelow := by
  refine T.d_class_below.F.ok sc_class_below (fun vs H Q E h => ?_) (fun cdv A outer s H vs Q E hr h => ?_)
  · obtain ⟨_, _, _, rfl, _⟩ := h
    rfl
  · obtain ⟨v, s, x, rfl, hs, ok, q⟩ := h
    refine ⟨_, (pss_one (ps_ret (pe_call (ok_class_of T) (hr.mono (by decide)) (by rfl) T.d_class_of.g T.d_class_of.F.kp T.d_class_of.b .nil pass0 (pa_cons (pv 0) (pa_cons (pv 1) (pa_cons (pe_call (ok_run_bottom T) (hr.mono (by decide)) (by rfl) T.d_run_bottom.g T.d_run_bottom.F.kp T.d_run_bottom.b .nil pass0 (pa_cons (pv 0) (pa_cons (pv 1) pa_nil))) (pa_cons (pe_call (ok_run_top T) (hr.mono (by decide)) (by rfl) T.d_run_top.g T.d_run_top.F.kp T.d_run_top.b .nil pass0 (pa_cons (pv 0) (pa_cons (pv 1) pa_nil))) pa_nil))))))), ?_⟩
    refine ⟨_, rfl, _, rfl, _, rfl, _, rfl, v, s, x, rfl, hs, ok, fun H1 s1 => ?_⟩
    refine ⟨_, rfl, _, rfl, v, s, x, rfl, hs.mono (tup_of s1), ok, fun H2 s2 => ?_⟩
    exact ⟨v, s, x, _, _, rfl, hs.mono (tup_of (s1.trans s2)), q _ (s1.trans s2)⟩
/-- the names of the aggregates -/
def agS : Td.Ag → PySem.Str
  | .count => "count"
  | .sum => "sum"
  | .least => "least"
  | .greatest => "greatest"
noncomputable def clsFor (s : Sh) (g : Td.Ag) (x : Int) : Option Int := match g with
  | .least => Td.clsA s.fac (inS s) x
  | _ => Td.clsB s.fac (inS s) x
def spClassFor : Sp := fun vs H Q _ => ∃ v s g x, vs = [v, .str (agS g), .int x] ∧ ShowV H v s ∧ ShOk s ∧ ∀ H', Same H H' → Q (optI (clsFor s g x)) H'
theorem sc_class_for : FnScope ["show", "aggregate", "value"] ["show", "aggregate", "value"] (defScope (topS 23)) := ⟨rfl, rfl, rfl, by decide +kernel, rfl, by decide +kernel, by decide +kernel⟩
theorem ok_class_for (T : Txt K mg) : FnOk P w K mg base CX0 5 T.d_class_for.f T.d_class_for.fd ["show", "aggregate", "value"] spClassFor := by
  refine T.d_class_for.F.ok sc_class_for (fun vs H Q E h => ?_) (fun cdv A outer s H vs Q E hr h => ?_)
  · obtain ⟨_, _, _, _, rfl, _⟩ := h
    rfl
  · obtain ⟨v, s, g, x, rfl, hs, ok, q⟩ := h
    refine ⟨_, (pss_one (ps_ret (pe_ifExp (pt_cmpR op_eq (pv 1) pe_str (nomark _)) (pe_call (ok_class_above T) (hr.mono (by decide)) (by rfl) T.d_class_above.g T.d_class_above.F.kp T.d_class_above.b .nil pass0 (pa_cons (pv 0) (pa_cons (pv 2) pa_nil))) (pe_call (ok_class_below T) (hr.mono (by decide)) (by rfl) T.d_class_below.g T.d_class_below.F.kp T.d_class_below.b .nil pass0 (pa_cons (pv 0) (pa_cons (pv 2) pa_nil)))))), ?_⟩
    cases g with
    | least => exact ⟨_, rfl, rfl, _, rfl, iteT ⟨_, rfl, _, rfl, v, s, x, rfl, hs, ok, q⟩⟩
    | count => exact ⟨_, rfl, rfl, _, rfl, iteF ⟨_, rfl, _, rfl, v, s, x, rfl, hs, ok, q⟩⟩
    | sum => exact ⟨_, rfl, rfl, _, rfl, iteF ⟨_, rfl, _, rfl, v, s, x, rfl, hs, ok, q⟩⟩
    | greatest => exact ⟨_, rfl, rfl, _, rfl, iteF ⟨_, rfl, _, rfl, v, s, x, rfl, hs, ok, q⟩⟩
/-- the count limit -/
def mx (m n : Int) : Int := if n > m then n else m
def lowM : Option Int → Int
  | none => 0
  | some l => mx 0 (l - 1)
def holM (m : Int) : Option Int → Int
  | none => m
  | some x => mx m x
def limS (s : Sh) : Option Int := match s.high with
  | some h => some (if 1 ≤ h then h + 1 else 0)
  | none => if s.fac = 0 then some (holM (lowM s.low) s.holes.getLast? + 1) else none
theorem mx_ge (m n : Int) : m ≤ mx m n := by
  unfold mx
  split <;> omega
theorem lowM_pos (o : Option Int) : 0 ≤ lowM o := by
  cases o with
  | none => exact Int.le_refl 0
  | some l => exact mx_ge 0 _
theorem holM_ge (m : Int) (o : Option Int) : m ≤ holM m o := by
  cases o with
  | none => exact Int.le_refl m
  | some l => exact mx_ge m _
theorem limS_pos (s : Sh) : ∀ t, limS s = some t → 0 ≤ t := fun t h => by
  unfold limS at h
  have low := lowM_pos s.low
  have hol := holM_ge (lowM s.low) s.holes.getLast?
  cases hh : s.high with
  | some b =>
    rw [hh] at h
    cases h
    split <;> omega
  | none =>
    rw [hh] at h
    dsimp only at h
    split at h
    · cases h
      omega
    · cases h
theorem limS_nil (keys : Option (List PySem.Str)) (low : Option Int) : limS ⟨keys, low, none, [], 0⟩ = some (lowM low + 1) := rfl
theorem limS_snoc (keys : Option (List PySem.Str)) (low : Option Int) (r : List Int) (x : Int) : limS ⟨keys, low, none, r ++ [x], 0⟩ = some (mx (lowM low) x + 1) := by
  unfold limS
  rw [show (Sh.mk keys low none (r ++ [x]) 0).holes.getLast? = some x from List.getLast?_concat]
  rfl
def spLimit : Sp := fun vs H Q _ => ∃ v s, vs = [v] ∧ ShowV H v s ∧ Q (optI (limS s)) H
theorem sc_count_limit : FnScope ["show", "low", "high", "holes", "most"] ["show"] (defScope (topS 16)) := ⟨rfl, rfl, rfl, by decide +kernel, rfl, by decide +kernel, by decide +kernel⟩
theorem ok_count_limit (T : Txt K mg) : FnOk P w K mg base CX0 1 T.d_count_limit.f T.d_count_limit.fd ["show"] spLimit := by
  refine T.d_count_limit.F.ok sc_count_limit (fun vs H Q E h => ?_) (fun cdv A outer s H vs Q E hr h => ?_)
  · obtain ⟨_, _, rfl, _⟩ := h
    rfl
  · obtain ⟨v, s, rfl, ⟨a, kv, ho, nv, rfl, h1, hk, h3⟩, q⟩ := h
    refine ⟨_, (pss_cons (ps_par3 (i := 1) (j := 2) (l := 3) (by rfl) sc_count_limit.nd rfl rfl rfl (by decide) (by decide) (by decide) rfl rfl rfl (pa_cons (pe_ix (ixT K) (pv 0) pe_int (fun _ _ => rfl)) (pa_cons (pe_ix (ixT K) (pv 0) pe_int (fun _ _ => rfl)) (pa_cons (pe_ix (ixT K) (pv 0) pe_int (fun _ _ => rfl)) pa_nil))) (by rfl))
      (pss_cons (ps_if (pt_cmpR op_notN (pv 2) pe_non (nomark _))
        (pss_one (ps_ret (pe_ifExp (pt_cmpR op_ge (pv 2) pe_int (nomark _)) (pe_op op_add (pv 2) pe_int) pe_int)))
        pss_nil)
      (pss_cons (ps_if (pt_cmpR op_ne (pe_ix (ixT K) (pv 0) pe_int (fun _ _ => rfl)) pe_int (nomark _))
        (pss_one (ps_ret pe_non))
        pss_nil)
      (pss_cons (ps_set (i := 4) sc_count_limit.nd rfl (Or.inl rfl) pe_int)
      (pss_cons (ps_if (pt_cmpR op_notN (pv 1) pe_non (nomark _))
        (pss_one (ps_set (i := 4) sc_count_limit.nd rfl (Or.inl rfl) (pe_callB (call_max2 rfl) (by rfl) T.z_max (by decide +kernel) (pa_cons (pv 4) (pa_cons (pe_op op_sub (pv 1) pe_int) pa_nil)))))
        pss_nil)
      (pss_cons (ps_if (pt_truth (pv 3) (by intro _; rfl))
        (pss_one (ps_set (i := 4) sc_count_limit.nd rfl (Or.inl rfl) (pe_callB (call_max2 rfl) (by rfl) T.z_max (by decide +kernel) (pa_cons (pv 4) (pa_cons (pe_ix (ixT K) (pv 3) (pe_un un_neg pe_int) (fun _ _ => rfl)) pa_nil)))))
        pss_nil)
      (pss_one (ps_ret (pe_op op_add (pv 4) pe_int))))))))), ?_⟩
    obtain ⟨keys, low, high, holes, fac⟩ := s
    refine ⟨_, rfl, _, _, _, _, rfl, rfl, SqT.of h1, rfl, _, rfl, _, _, _, _, rfl, rfl, SqT.of h1, rfl, _, rfl, _, _, _, _, rfl, rfl, SqT.of h1, rfl, _, _, _, rfl, ?_⟩
    refine ⟨_, rfl, rfl, _, rfl, ?_⟩
    cases high with
    | some h =>
      refine iteT ⟨_, rfl, _, _, rfl, rfl, _, rfl, ite2 (fun c => ?_) fun c => ?_⟩
      · refine ⟨_, rfl, _, _, rfl, rfl, ?_⟩
        have e : limS ⟨keys, low, some h, holes, fac⟩ = some (h + 1) := by
          show some (if 1 ≤ h then h + 1 else 0) = _
          rw [if_pos (of_decide_eq_true c)]
        rw [e] at q
        exact q
      · have e : limS ⟨keys, low, some h, holes, fac⟩ = some 0 := by
          show some (if 1 ≤ h then h + 1 else 0) = _
          rw [if_neg (of_decide_eq_false (Bool.eq_false_iff.mpr c))]
        rw [e] at q
        exact q
    | none =>
      refine iteF ⟨_, rfl, _, _, _, _, rfl, rfl, SqT.of h1, rfl, rfl, _, rfl, ?_⟩
      refine ite2 (fun c => ?_) fun c => ?_
      · have f0 : fac ≠ 0 := fun z => by subst z; cases c
        have e : limS ⟨keys, low, none, holes, fac⟩ = none := by
          show (if fac = 0 then _ else none) = _
          rw [if_neg f0]
        rw [e] at q
        exact q
      · have f0 : fac = 0 := by
          cases hd : decide (V.int fac = V.int 0) with
          | true => exact V.int.inj (of_decide_eq_true hd)
          | false => exact absurd (show (!decide (V.int fac = V.int 0)) = true by rw [hd]; rfl) c
        subst f0
        have g1 : holes = [] → Q (.int (lowM low + 1)) H := fun e => by
          subst e
          rw [limS_nil] at q
          exact q
        have g2 : ∀ r x, holes = r ++ [x] → Q (.int (mx (lowM low) x + 1)) H := fun r x e => by
          subst e
          rw [limS_snoc] at q
          exact q
        refine ⟨_, rfl, rfl, _, rfl, ?_⟩
        cases low with
        | none =>
          refine iteF ⟨_, rfl, _, .inr (.inl ⟨_, SqT.of h3, rfl⟩), ?_⟩
          rcases List.eq_nil_or_concat holes with hf | ⟨r, x, hf⟩
          · subst hf
            exact iteF ⟨_, rfl, _, _, rfl, rfl, g1 rfl⟩
          · rw [List.concat_eq_append] at hf
            subst hf
            rw [List.map_append] at h3
            have e1 : (!((r ++ [x]).map V.int).isEmpty) = true := by simp
            rw [e1]
            refine iteT ⟨_, rfl, _, rfl, _, rfl, _, _, _, _, rfl, rfl, SqT.of h3, atI_last _ _, ?_⟩
            exact ⟨_, _, rfl, _, rfl, _, _, rfl, rfl, g2 r x rfl⟩
        | some l =>
          refine iteT ⟨_, rfl, _, rfl, _, _, rfl, rfl, _, _, rfl, ?_⟩
          refine ⟨_, rfl, _, .inr (.inl ⟨_, SqT.of h3, rfl⟩), ?_⟩
          rcases List.eq_nil_or_concat holes with hf | ⟨r, x, hf⟩
          · subst hf
            exact iteF ⟨_, rfl, _, _, rfl, rfl, g1 rfl⟩
          · rw [List.concat_eq_append] at hf
            subst hf
            rw [List.map_append] at h3
            have e1 : (!((r ++ [x]).map V.int).isEmpty) = true := by simp
            rw [e1]
            refine iteT ⟨_, rfl, _, rfl, _, rfl, _, _, _, _, rfl, rfl, SqT.of h3, atI_last _ _, ?_⟩
            exact ⟨_, _, rfl, _, rfl, _, _, rfl, rfl, g2 r x rfl⟩
end
end L2.K21
namespace L2.K21
open PySem PySem.Spec PyProof.Rows
open TdS (RowA ltR SortedOf)
section
variable {P : Program} {w : World} {K : PySem.W.Frag} {mg : PySem.Str → Option Value} {base : Heap}
/-! ### lists of one item -/
theorem for_one {K : PySem.W.Frag} {a : Addr} {x : V} {g : TG} {tb : TS} {D : Ends} {σ : St} {H : Hp} (N : St → Hp → Prop) (hl : SqL K H a [x]) (hN : ∀ σ' H', N σ' H' → SqL K H' a [x] ∧ D.nx σ' H')
    (hs : g x σ H fun σ2 H2 => tb { D with nx := N, ct := N, bk := D.nx } σ2 H2) :
    ∃ W : Nat → Nat → St → Hp → Prop, (∃ m, W 0 m σ H) ∧ ∀ i m σ H, W i m σ H →
      ((Itl K a).stop i H ∧ D.nx σ H) ∨ ((Itl K a).go i H ∧ ∃ N : St → Hp → Prop, (∀ σ' H', N σ' H' → ∃ m', m' < m ∧ W (i + 1) m' σ' H') ∧ ∀ x H', (Itl K a).yld i H x H' → g x σ H' fun σ2 H2 => tb { D with nx := N, ct := N, bk := D.nx } σ2 H2) := by
  refine ⟨fun i m σ' H' => (i = 0 ∧ m = 1 ∧ σ' = σ ∧ H' = H) ∨ (i = 1 ∧ m = 0 ∧ N σ' H'), ⟨1, .inl ⟨rfl, rfl, rfl, rfl⟩⟩, fun i m σ' H' h => ?_⟩
  rcases h with ⟨rfl, rfl, rfl, rfl⟩ | ⟨rfl, rfl, n⟩
  · refine .inr ⟨⟨_, x, hl, rfl⟩, N, fun σ1 H1 n => ⟨0, by omega, .inr ⟨rfl, rfl, n⟩⟩, fun y H1 hy => ?_⟩
    obtain ⟨rfl, f⟩ := hy
    cases Option.some.inj ((f _ hl).symm.trans rfl : some y = some x)
    exact hs
  · obtain ⟨h1, h2⟩ := hN _ _ n
    exact .inl ⟨⟨_, h1, Nat.le_refl _⟩, h2⟩
theorem enum_one {K : PySem.W.Frag} {a : Addr} {x : V} {g : TG} {tb : TS} {D : Ends} {σ : St} {H : Hp} (N : St → Hp → Prop) (hl : SqL K H a [x]) (hN : ∀ σ' H', N σ' H' → SqL K H' a [x] ∧ D.nx σ' H')
    (hs : ∀ t, H t = none → g (.ref t) σ (upd H t (.tup [.int 0, x])) fun σ2 H2 => tb { D with nx := N, ct := N, bk := D.nx } σ2 H2) :
    ∃ W : Nat → Nat → St → Hp → Prop, (∃ m, W 0 m σ H) ∧ ∀ i m σ H, W i m σ H →
      ((Ite K a).stop i H ∧ D.nx σ H) ∨ ((Ite K a).go i H ∧ ∃ N : St → Hp → Prop, (∀ σ' H', N σ' H' → ∃ m', m' < m ∧ W (i + 1) m' σ' H') ∧ ∀ x H', (Ite K a).yld i H x H' → g x σ H' fun σ2 H2 => tb { D with nx := N, ct := N, bk := D.nx } σ2 H2) := by
  refine ⟨fun i m σ' H' => (i = 0 ∧ m = 1 ∧ σ' = σ ∧ H' = H) ∨ (i = 1 ∧ m = 0 ∧ N σ' H'), ⟨1, .inl ⟨rfl, rfl, rfl, rfl⟩⟩, fun i m σ' H' h => ?_⟩
  rcases h with ⟨rfl, rfl, rfl, rfl⟩ | ⟨rfl, rfl, n⟩
  · refine .inr ⟨⟨_, x, hl, rfl⟩, N, fun σ1 H1 n => ⟨0, by omega, .inr ⟨rfl, rfl, n⟩⟩, fun y H1 hy => ?_⟩
    obtain ⟨t, z, rfl, ht, rfl, f⟩ := hy
    cases Option.some.inj ((f _ hl).symm.trans rfl : some z = some x)
    exact hs t ht
  · obtain ⟨h1, h2⟩ := hN _ _ n
    exact .inl ⟨⟨_, h1, Nat.le_refl _⟩, h2⟩
/-! ### number_of, sum_of, extreme_of -/
def spNumber : Sp := fun vs H Q _ => ∃ v l, vs = [v] ∧ PtsV H v l ∧ l.length ≤ 1000 ∧ ∀ H', Same H H' → Q (.int (Td.num l)) H'
theorem num_map : ∀ l : List Td.Pt, (l.map fun p => p.2.2).sum = Td.num l
  | [] => rfl
  | p :: l => by rw [List.map_cons, List.sum_cons, num_map l]; rfl
theorem tot_map : ∀ l : List Td.Pt, (l.map fun p => p.2.1 * p.2.2).sum = Td.tot l
  | [] => rfl
  | p :: l => by rw [List.map_cons, List.sum_cons, tot_map l]; rfl
theorem sc_number_of : FnScope ["parts", "time", "value", "count"] ["parts"] (defScope (topS 20)) := ⟨rfl, rfl, rfl, by decide +kernel, rfl, by decide +kernel, by decide +kernel⟩
theorem ok_number_of (T : Txt K mg) : FnOk P w K mg base CX0 1 T.d_number_of.f T.d_number_of.fd ["parts"] spNumber := by
  refine T.d_number_of.F.ok sc_number_of (fun vs H Q E h => ?_) (fun cdv A outer s H vs Q E hr h => ?_)
  · obtain ⟨_, _, rfl, _⟩ := h
    rfl
  · obtain ⟨v, l, rfl, ⟨a, xs, rfl, ha, hp⟩, hl, q⟩ := h
    refine ⟨_, (pss_one (ps_ret (pe_callB (cr_sum rfl) (by rfl) T.z_sum (by decide +kernel) (pa_cons (pe_lc (own := [("time", 1), ("value", 2), ("count", 3)]) (by rfl) sc_number_of.nd (pi_list (pv 0)) (blkOk_by (own := [("time", 1), ("value", 2), ("count", 3)]) (N := ["parts", "time", "value", "count"]) (sc := defScope (topS 20)) (by decide +kernel)) (fun _ _ _ _ _ => (pgTup K 3 rfl (pgs_cons (pg_name (i := 1) sc_number_of.nd rfl (Or.inl rfl)) (pgs_cons (pg_name (i := 2) sc_number_of.nd rfl (Or.inl rfl)) (pgs_cons (pg_name (i := 3) sc_number_of.nd rfl (Or.inl rfl)) pgs_nil))))) (fun _ _ _ _ _ => pts_nil) (fun _ _ _ _ _ => (pv 3))) pa_nil)))), ?_⟩
    refine ⟨.ref a, rfl, a, rfl, ⟨_, SqL.of ha⟩, fun D nD => ?_⟩
    refine lc_fm (F := PtV) (G := IntV) (fun p : Td.Pt => some p.2.2) nD (SqL.of ha) hp (fun _ _ _ _ => PtV.mono) (fun _ _ _ _ => IntV.mono) (small1000 hl) (fun y x H1 R R' _ fx sm h1 h2 => ?_) fun H1 ys sm hy py => ?_
    · obtain ⟨b, rfl, hb⟩ := fx
      refine ⟨b, _, rfl, SqT.of hb, rfl, _, _, rfl, _, _, rfl, _, _, rfl, rfl, rfl, ?_⟩
      exact iteT (B := R' H1) ⟨_, rfl, h1 _ y.2.2 _ rfl (Same.refl _) rfl⟩
    · rw [fm_map] at py
      have e := ints_pair py
      subst e
      refine ⟨_, _, rfl, SqL.of hy, ?_⟩
      rw [num_map]
      exact q _ sm
def spSumOf : Sp := fun vs H Q _ => ∃ v l, vs = [v] ∧ PtsV H v l ∧ l.length ≤ 1000 ∧ (∀ p ∈ l, 0 < p.2.2 ∧ p.2.2 ≤ 1000000) ∧ ∀ H', Same H H' → Q (.int (Td.tot l)) H'
theorem sc_sum_of : FnScope ["parts", "time", "value", "count"] ["parts"] (defScope (topS 21)) := ⟨rfl, rfl, rfl, by decide +kernel, rfl, by decide +kernel, by decide +kernel⟩
theorem ok_sum_of (T : Txt K mg) : FnOk P w K mg base CX0 1 T.d_sum_of.f T.d_sum_of.fd ["parts"] spSumOf := by
  refine T.d_sum_of.F.ok sc_sum_of (fun vs H Q E h => ?_) (fun cdv A outer s H vs Q E hr h => ?_)
  · obtain ⟨_, _, rfl, _⟩ := h
    rfl
  · obtain ⟨v, l, rfl, ⟨a, xs, rfl, ha, hp⟩, hl, hb, q⟩ := h
    refine ⟨_, (pss_one (ps_ret (pe_callB (cr_sum rfl) (by rfl) T.z_sum (by decide +kernel) (pa_cons (pe_lc (own := [("time", 1), ("value", 2), ("count", 3)]) (by rfl) sc_sum_of.nd (pi_list (pv 0)) (blkOk_by (own := [("time", 1), ("value", 2), ("count", 3)]) (N := ["parts", "time", "value", "count"]) (sc := defScope (topS 21)) (by decide +kernel)) (fun _ _ _ _ _ => (pgTup K 3 rfl (pgs_cons (pg_name (i := 1) sc_sum_of.nd rfl (Or.inl rfl)) (pgs_cons (pg_name (i := 2) sc_sum_of.nd rfl (Or.inl rfl)) (pgs_cons (pg_name (i := 3) sc_sum_of.nd rfl (Or.inl rfl)) pgs_nil))))) (fun _ _ _ _ _ => pts_nil) (fun _ _ _ _ _ => (pe_op op_mul (pv 2) (pv 3)))) pa_nil)))), ?_⟩
    refine ⟨.ref a, rfl, a, rfl, ⟨_, SqL.of ha⟩, fun D nD => ?_⟩
    refine lc_fm (F := PtV) (G := IntV) (fun p : Td.Pt => some (p.2.1 * p.2.2)) nD (SqL.of ha) hp (fun _ _ _ _ => PtV.mono) (fun _ _ _ _ => IntV.mono) (small1000 hl) (fun y x H1 R R' hm fx sm h1 h2 => ?_) fun H1 ys sm hy py => ?_
    · obtain ⟨b, rfl, hb'⟩ := fx
      refine ⟨b, _, rfl, SqT.of hb', rfl, _, _, rfl, _, _, rfl, _, _, rfl, rfl, rfl, ?_⟩
      have := hb y hm
      exact iteT (B := R' H1) ⟨_, rfl, _, rfl, _, _, rfl, rfl, .inr ⟨by omega, by omega⟩, h1 _ (y.2.1 * y.2.2) _ rfl (Same.refl _) rfl⟩
    · rw [fm_map] at py
      have e := ints_pair py
      subst e
      refine ⟨_, _, rfl, SqL.of hy, ?_⟩
      rw [tot_map]
      exact q _ sm
noncomputable def extFor (g : Td.Ag) (l : List Td.Pt) : Int := match g with
  | .least => Td.ext (fun a b => min a b) l
  | _ => Td.ext (fun a b => max a b) l
theorem ext_min : ∀ {l : List Td.Pt}, l ≠ [] → ∀ m, m ∈ l.map (fun p => p.2.1) → (∀ y ∈ l.map (fun p => p.2.1), m ≤ y) → m = Td.ext (fun a b => min a b) l
  | [], h, _, _, _ => absurd rfl h
  | [p], _, m, hm, _ => (show m = p.2.1 by simpa using hm)
  | p :: q :: t, _, m, hm, hle => by
    have ex : ∃ z, z ∈ (q :: t).map (fun p => p.2.1) ∧ ∀ y ∈ (q :: t).map (fun p => p.2.1), z ≤ y := by
      have : ∀ (r : List Int), r ≠ [] → ∃ z, z ∈ r ∧ ∀ y ∈ r, z ≤ y := by
        intro r
        induction r with
        | nil => intro h; exact absurd rfl h
        | cons a r ih =>
          intro _
          cases r with
          | nil => exact ⟨a, List.mem_cons_self .., fun y hy => by rw [List.mem_singleton.mp hy]; exact Int.le_refl _⟩
          | cons b r =>
            obtain ⟨z, hz, hz2⟩ := ih (List.cons_ne_nil _ _)
            by_cases c : a ≤ z
            · exact ⟨a, List.mem_cons_self .., fun y hy => by
                rcases List.mem_cons.mp hy with e | hy
                · rw [e]; exact Int.le_refl _
                · exact Int.le_trans c (hz2 y hy)⟩
            · exact ⟨z, List.mem_cons_of_mem _ hz, fun y hy => by
                rcases List.mem_cons.mp hy with e | hy
                · rw [e]; omega
                · exact hz2 y hy⟩
      exact this _ (by simp)
    obtain ⟨z, hz, hz2⟩ := ex
    have ih := ext_min (l := q :: t) (List.cons_ne_nil _ _) z hz hz2
    show m = min p.2.1 (Td.ext (fun a b => min a b) (q :: t))
    rw [← ih]
    have h1 : m ≤ p.2.1 := hle p.2.1 (by simp)
    have h2 : m ≤ z := hle z (List.mem_cons_of_mem _ hz)
    rcases List.mem_cons.mp hm with e | hm
    · have e : m = p.2.1 := e
      omega
    · have := hz2 m hm; omega
theorem ext_max : ∀ {l : List Td.Pt}, l ≠ [] → ∀ m, m ∈ l.map (fun p => p.2.1) → (∀ y ∈ l.map (fun p => p.2.1), y ≤ m) → m = Td.ext (fun a b => max a b) l
  | [], h, _, _, _ => absurd rfl h
  | [p], _, m, hm, _ => (show m = p.2.1 by simpa using hm)
  | p :: q :: t, _, m, hm, hle => by
    have ex : ∃ z, z ∈ (q :: t).map (fun p => p.2.1) ∧ ∀ y ∈ (q :: t).map (fun p => p.2.1), y ≤ z := by
      have : ∀ (r : List Int), r ≠ [] → ∃ z, z ∈ r ∧ ∀ y ∈ r, y ≤ z := by
        intro r
        induction r with
        | nil => intro h; exact absurd rfl h
        | cons a r ih =>
          intro _
          cases r with
          | nil => exact ⟨a, List.mem_cons_self .., fun y hy => by rw [List.mem_singleton.mp hy]; exact Int.le_refl _⟩
          | cons b r =>
            obtain ⟨z, hz, hz2⟩ := ih (List.cons_ne_nil _ _)
            by_cases c : z ≤ a
            · exact ⟨a, List.mem_cons_self .., fun y hy => by
                rcases List.mem_cons.mp hy with e | hy
                · rw [e]; exact Int.le_refl _
                · exact Int.le_trans (hz2 y hy) c⟩
            · exact ⟨z, List.mem_cons_of_mem _ hz, fun y hy => by
                rcases List.mem_cons.mp hy with e | hy
                · rw [e]; omega
                · exact hz2 y hy⟩
      exact this _ (by simp)
    obtain ⟨z, hz, hz2⟩ := ex
    have ih := ext_max (l := q :: t) (List.cons_ne_nil _ _) z hz hz2
    show m = max p.2.1 (Td.ext (fun a b => max a b) (q :: t))
    rw [← ih]
    have h1 : p.2.1 ≤ m := hle p.2.1 (by simp)
    have h2 : z ≤ m := hle z (List.mem_cons_of_mem _ hz)
    rcases List.mem_cons.mp hm with e | hm
    · have e : m = p.2.1 := e
      omega
    · have := hz2 m hm; omega
def spExtreme : Sp := fun vs H Q _ => ∃ v g l, vs = [v, .str (agS g)] ∧ PtsV H v l ∧ l ≠ [] ∧ l.length ≤ 1000 ∧ ∀ H', Same H H' → Q (.int (extFor g l)) H'
theorem sc_extreme_of : FnScope ["parts", "aggregate", "values", "time", "value", "count"] ["parts", "aggregate"] (defScope (topS 22)) := ⟨rfl, rfl, rfl, by decide +kernel, rfl, by decide +kernel, by decide +kernel⟩
theorem ok_extreme_of (T : Txt K mg) : FnOk P w K mg base CX0 1 T.d_extreme_of.f T.d_extreme_of.fd ["parts", "aggregate"] spExtreme := by
  refine T.d_extreme_of.F.ok sc_extreme_of (fun vs H Q E h => ?_) (fun cdv A outer s H vs Q E hr h => ?_)
  · obtain ⟨_, _, _, rfl, _⟩ := h
    rfl
  · obtain ⟨v, g, l, rfl, ⟨a, xs, rfl, ha, hp⟩, h0, hl, q⟩ := h
    refine ⟨_, (pss_cons (ps_setLc (i := 2) (own := [("time", 3), ("value", 4), ("count", 5)]) (by rfl) sc_extreme_of.nd rfl rfl (sw_true rfl rfl rfl (by decide +kernel)) (pi_list (pv 0)) (blkOk_by (own := [("time", 3), ("value", 4), ("count", 5)]) (N := ["parts", "aggregate", "values", "time", "value", "count"]) (sc := defScope (topS 22)) (by decide +kernel)) (fun _ _ _ _ _ => (pgTup K 3 rfl (pgs_cons (pg_name (i := 3) sc_extreme_of.nd rfl (Or.inl rfl)) (pgs_cons (pg_name (i := 4) sc_extreme_of.nd rfl (Or.inl rfl)) (pgs_cons (pg_name (i := 5) sc_extreme_of.nd rfl (Or.inl rfl)) pgs_nil))))) (fun _ _ _ _ _ => pts_nil) (fun _ _ _ _ _ => (pv 4)))
      (pss_one (ps_ret (pe_ifExp (pt_cmpR op_eq (pv 1) pe_str (nomark _)) (pe_callB (cr_min rfl) (by rfl) T.z_min (by decide +kernel) (pa_cons (pv 2) pa_nil)) (pe_callB (cr_max rfl) (by rfl) T.z_max (by decide +kernel) (pa_cons (pv 2) pa_nil)))))), ?_⟩
    refine ⟨.ref a, rfl, a, rfl, ⟨_, SqL.of ha⟩, fun D nD => ?_⟩
    refine lc_fm (F := PtV) (G := IntV) (fun p : Td.Pt => some p.2.1) nD (SqL.of ha) hp (fun _ _ _ _ => PtV.mono) (fun _ _ _ _ => IntV.mono) (small1000 hl) (fun y x H1 R R' hm fx sm h1 h2 => ?_) fun H1 ys sm hy py => ?_
    · obtain ⟨b, rfl, hb'⟩ := fx
      refine ⟨b, _, rfl, SqT.of hb', rfl, _, _, rfl, _, _, rfl, _, _, rfl, rfl, rfl, ?_⟩
      exact iteT (B := R' H1) ⟨_, rfl, h1 _ y.2.1 _ rfl (Same.refl _) rfl⟩
    · rw [fm_map] at py
      have e := ints_pair py
      subst e
      have n0 : 0 < (l.map fun p => p.2.1).length := by
        rw [List.length_map]
        exact List.length_pos_iff.mpr h0
      have hmax : ∀ m, m ∈ (l.map fun p => p.2.1) → (∀ y, y ∈ (l.map fun p => p.2.1) → y ≤ m) → g ≠ .least → Q (.int m) H1 := fun m h1 h2 h3 => by
        have e : m = extFor g l := by
          rw [ext_max h0 m h1 h2]
          cases g <;> first | rfl | exact absurd rfl h3
        rw [e]
        exact q _ sm
      cases g with
      | least =>
        refine ⟨_, rfl, rfl, _, rfl, iteT ⟨_, rfl, _, _, rfl, SqL.of hy, n0, fun m h1 h2 => ?_⟩⟩
        rw [ext_min h0 m h1 h2]
        exact q _ sm
      | count => exact ⟨_, rfl, rfl, _, rfl, iteF ⟨_, rfl, _, _, rfl, SqL.of hy, n0, fun m h1 h2 => hmax m h1 h2 (fun e => by cases e)⟩⟩
      | sum => exact ⟨_, rfl, rfl, _, rfl, iteF ⟨_, rfl, _, _, rfl, SqL.of hy, n0, fun m h1 h2 => hmax m h1 h2 (fun e => by cases e)⟩⟩
      | greatest => exact ⟨_, rfl, rfl, _, rfl, iteF ⟨_, rfl, _, _, rfl, SqL.of hy, n0, fun m h1 h2 => hmax m h1 h2 (fun e => by cases e)⟩⟩
end
end L2.K21
namespace L2.K21
open PySem PySem.Spec PyProof.Rows
open TdS (RowA ltR SortedOf)
section
variable {P : Program} {w : World} {K : PySem.W.Frag} {mg : PySem.Str → Option Value} {base : Heap}
/-! ### what is kept of one group -/
def toRows (k : PySem.Str) (l : List Td.Pt) : List (Row × Int) := l.map fun p => ((p.1, k, p.2.1), p.2.2)
def GrpV (H : Hp) (v : V) (l : Int) (sit : List Td.Pt) : Prop := ∃ ga t pv, v = .ref ga ∧ H ga = some (.lst [.ref t]) ∧ H t = some (.tup [.int l, pv]) ∧ PtsV H pv sit
def swOf (s : Sh) : Td.Sw := ⟨inS s, s.fac, limS s, allS s⟩
/-- a row with its count is laid and put behind the list at p -/
abbrev putR (H : Hp) (c b p : Addr) (ys : List V) (r : Row) (n : Int) : Hp := upd (upd (upd H c (.tup [.int r.1, .str r.2.1, .int r.2.2])) b (.tup [.ref c, .int n])) p (.lst (ys ++ [.ref b]))
theorem putR_at {H : Hp} {c b p : Addr} {ys : List V} {r : Row} {n : Int} (hp : H p = some (.lst ys)) (hc : H c = none) (hb : upd H c (.tup [.int r.1, .str r.2.1, .int r.2.2]) b = none) :
    (upd (upd H c (.tup [.int r.1, .str r.2.1, .int r.2.2])) b (.tup [.ref c, .int n])) p = some (.lst ys) := by
  have h1 : (upd H c (.tup [.int r.1, .str r.2.1, .int r.2.2])) p = some (.lst ys) := by
    rw [upd_ne (ne_of_none hp hc)]
    exact hp
  rw [upd_ne (ne_of_none h1 hb)]
  exact h1
theorem putR_ok {H0 H : Hp} {c b p : Addr} {ys : List V} {rows : List (Row × Int)} {r : Row} {n : Int} (sm : Same H0 H) (h0 : H0 p = none) (hp : H p = some (.lst ys)) (hr : Paired (PairV H) ys rows) (hc : H c = none)
    (hb : upd H c (.tup [.int r.1, .str r.2.1, .int r.2.2]) b = none) : Same H0 (putR H c b p ys r n) ∧ putR H c b p ys r n p = some (.lst (ys ++ [.ref b])) ∧ Paired (PairV (putR H c b p ys r n)) (ys ++ [.ref b]) (rows ++ [(r, n)]) := by
  have at1 := putR_at (n := n) hp hc hb
  have s2 : Same H (upd (upd H c (.tup [.int r.1, .str r.2.1, .int r.2.2])) b (.tup [.ref c, .int n])) := (same_new hc).trans (same_new hb)
  have t3 := tup_lst (o := .lst (ys ++ [.ref b])) at1
  refine ⟨same_upd (sm.trans s2) h0, upd_same, ?_⟩
  refine (pmap hr fun _ _ q => q.mono ((tup_of s2).trans t3)).snoc ⟨b, c, rfl, t3 _ _ upd_same, t3 _ _ ?_⟩
  exact tup_new hb _ _ upd_same
theorem limit_min (t n : Int) : (if n < t then n else t) = Td.limit (some t) n := by
  show _ = min t n
  split <;> omega
def spCounts : Sp := fun vs H Q _ => ∃ v l sit k lim, vs = [v, .str k, optI lim] ∧ GrpV H v l sit ∧ sit.length ≤ 1000 ∧
  ∀ u H', Same H H' → BagV H' u (toRows k (Td.rowOf l (if 0 < Td.limit lim (Td.num sit) then some (0, Td.limit lim (Td.num sit)) else none))) → Q u H'
theorem sc_counts_kept : FnScope ["groups", "key", "limit", "pairs", "left", "start", "parts", "number"] ["groups", "key", "limit"] (defScope (topS 24)) := ⟨rfl, rfl, rfl, by decide +kernel, rfl, by decide +kernel, by decide +kernel⟩
theorem ok_counts_kept (T : Txt K mg) : FnOk P w K mg base CX0 2 T.d_counts_kept.f T.d_counts_kept.fd ["groups", "key", "limit"] spCounts := by
  refine T.d_counts_kept.F.ok sc_counts_kept (fun vs H Q E h => ?_) (fun cdv A outer s H vs Q E hr h => ?_)
  · obtain ⟨_, _, _, _, _, rfl, _⟩ := h
    rfl
  · obtain ⟨v, l, sit, k, lim, rfl, ⟨ga, t, pv', rfl, hg, ht, hp⟩, hl, q⟩ := h
    refine ⟨_, (pss_cons (ps_set (i := 3) sc_counts_kept.nd rfl (Or.inl rfl) (pe_lst pa_nil))
      (pss_cons (ps_set (i := 4) sc_counts_kept.nd rfl (Or.inl rfl) (pv 2))
      (pss_cons (ps_for PassesOwn.never rfl (pi_list (pv 0)) (pgTup K 2 rfl (pgs_cons (pg_name (i := 5) sc_counts_kept.nd rfl (Or.inl rfl)) (pgs_cons (pg_name (i := 6) sc_counts_kept.nd rfl (Or.inl rfl)) pgs_nil)))
        (pss_cons (ps_set (i := 7) sc_counts_kept.nd rfl (Or.inl rfl) (pe_ifExp (pt_cmpR op_isN (pv 4) pe_non (nomark _)) (pe_call (ok_number_of T) (hr.mono (by decide)) (by rfl) T.d_number_of.g T.d_number_of.F.kp T.d_number_of.b .nil pass0 (pa_cons (pv 6) pa_nil)) (pe_callB (call_min2 rfl) (by rfl) T.z_min (by decide +kernel) (pa_cons (pv 4) (pa_cons (pe_call (ok_number_of T) (hr.mono (by decide)) (by rfl) T.d_number_of.g T.d_number_of.F.kp T.d_number_of.b .nil pass0 (pa_cons (pv 6) pa_nil)) pa_nil)))))
        (pss_cons (ps_if (pt_cmpR op_gt (pv 7) pe_int (nomark _))
          (pss_one (ps_expr (pe_bm PySem.F.plainAttrs_list PySem.F.slot_list_append PySem.F.type_list_append mt_append (pv 3) (pa_cons (pe_tup (pa_cons (pe_tup (pa_cons (pv 5) (pa_cons (pv 1) (pa_cons pe_int pa_nil)))) (pa_cons (pv 7) pa_nil))) pa_nil))))
          pss_nil)
        (pss_one (ps_if (pt_cmpR op_notN (pv 4) pe_non (nomark _))
          (pss_one (ps_aug (i := 4) sc_counts_kept.nd rfl (Or.inl rfl) (pv 7) ip_sub))
          pss_nil)))))
      (pss_one (ps_ret (pv 3)))))), ?_⟩
    refine ⟨(by show 0 ≤ sizeLine; decide), fun p np => ?_⟩
    have s1 : Same H (upd H p (.lst [])) := same_new np
    refine ⟨_, rfl, _, rfl, ga, rfl, ⟨_, SqL.of (s1 _ _ hg)⟩, ?_⟩
    refine for_one (fun σ' H' => Same H H' ∧ σ'[3]? = some (some (.ref p)) ∧ ∃ ys, H' p = some (.lst ys) ∧ Paired (PairV H') ys (toRows k (Td.rowOf l (if 0 < Td.limit lim (Td.num sit) then some (0, Td.limit lim (Td.num sit)) else none)))) (SqL.of (s1 _ _ hg)) (fun σ' H' n => ?_) ?_
    · obtain ⟨sm, e3, ys, hy, py⟩ := n
      exact ⟨SqL.of (sm _ _ hg), _, e3, q _ _ sm ⟨p, ys, rfl, hy, py⟩⟩
    · refine ⟨t, _, rfl, SqT.of (s1 _ _ ht), rfl, _, _, rfl, _, _, rfl, rfl, ?_⟩
      have body : ∀ H2, Same (upd H p (.lst [])) H2 → ∀ W : Prop, (Same H H2 → H2 p = some (.lst []) → W) → W := fun H2 s2 W f => f (s1.trans s2) (s2 _ _ upd_same)
      cases lim with
      | none =>
        refine ⟨_, rfl, rfl, _, rfl, iteT ⟨_, rfl, pv', sit, rfl, hp.mono s1, hl, fun H2 s2 => ?_⟩⟩
        refine body H2 s2 _ fun sm h2 => ?_
        refine ⟨_, rfl, _, _, rfl, rfl, _, rfl, ite2 (fun c => ?_) fun c => ?_⟩
        · refine ⟨_, rfl, .inl ⟨rfl, _, SqL.of h2⟩, ?_⟩
          refine ⟨_, rfl, _, rfl, (by show 3 ≤ sizeLine; decide), fun c1 hc1 => ?_⟩
          refine ⟨_, rfl, (by show 2 ≤ sizeLine; decide), fun b1 hb1 => ?_⟩
          obtain ⟨r1, r2, r3⟩ := putR_ok (r := (l, k, 0)) (n := Td.num sit) sm np h2 .nil hc1 hb1
          refine ⟨p, [], _, rfl, rfl, putR_at (r := (l, k, 0)) h2 hc1 hb1, (by decide), ?_⟩
          refine ⟨_, rfl, rfl, _, rfl, iteF ⟨r1, rfl, _, r2, ?_⟩⟩
          rw [if_pos (show 0 < Td.limit none (Td.num sit) from of_decide_eq_true c)]
          exact r3
        · refine ⟨_, rfl, rfl, _, rfl, iteF ⟨sm, rfl, _, h2, ?_⟩⟩
          rw [if_neg (show ¬ 0 < Td.limit none (Td.num sit) from of_decide_eq_false (Bool.eq_false_iff.mpr c))]
          exact .nil
      | some z =>
        refine ⟨_, rfl, rfl, _, rfl, iteF ⟨_, rfl, _, rfl, pv', sit, rfl, hp.mono s1, hl, fun H2 s2 => ?_⟩⟩
        refine body H2 s2 _ fun sm h2 => ?_
        refine ⟨_, _, rfl, ?_⟩
        rw [limit_min]
        refine ⟨_, rfl, _, _, rfl, rfl, _, rfl, ite2 (fun c => ?_) fun c => ?_⟩
        · refine ⟨_, rfl, .inl ⟨rfl, _, SqL.of h2⟩, ?_⟩
          refine ⟨_, rfl, _, rfl, (by show 3 ≤ sizeLine; decide), fun c1 hc1 => ?_⟩
          refine ⟨_, rfl, (by show 2 ≤ sizeLine; decide), fun b1 hb1 => ?_⟩
          obtain ⟨r1, r2, r3⟩ := putR_ok (r := (l, k, 0)) (n := Td.limit (some z) (Td.num sit)) sm np h2 .nil hc1 hb1
          refine ⟨p, [], _, rfl, rfl, putR_at (r := (l, k, 0)) h2 hc1 hb1, (by decide), ?_⟩
          refine ⟨_, rfl, rfl, _, rfl, iteT ⟨_, rfl, _, rfl, _, _, rfl, rfl, r1, rfl, _, r2, ?_⟩⟩
          rw [if_pos (show 0 < Td.limit (some z) (Td.num sit) from of_decide_eq_true c)]
          exact r3
        · refine ⟨_, rfl, rfl, _, rfl, iteT ⟨_, rfl, _, rfl, _, _, rfl, rfl, sm, rfl, _, h2, ?_⟩⟩
          rw [if_neg (show ¬ 0 < Td.limit (some z) (Td.num sit) from of_decide_eq_false (Bool.eq_false_iff.mpr c))]
          exact .nil
def spExtremes : Sp := fun vs H Q _ => ∃ v l sit k g u s, vs = [v, .str k, .str (agS g), u] ∧ GrpV H v l sit ∧ sit ≠ [] ∧ sit.length ≤ 1000 ∧ ShowV H u s ∧ ShOk s ∧
  ∀ x H', Same H H' → BagV H' x (toRows k (Td.rowOf l ((clsFor s g (extFor g sit)).map fun c => (c, 1)))) → Q x H'
theorem sc_extremes_kept : FnScope ["groups", "key", "aggregate", "show", "pairs", "behind", "last", "start", "parts", "found"] ["groups", "key", "aggregate", "show"] (defScope (topS 26)) := ⟨rfl, rfl, rfl, by decide +kernel, rfl, by decide +kernel, by decide +kernel⟩
theorem ok_extremes_kept (T : Txt K mg) : FnOk P w K mg base CX0 6 T.d_extremes_kept.f T.d_extremes_kept.fd ["groups", "key", "aggregate", "show"] spExtremes := by
  refine T.d_extremes_kept.F.ok sc_extremes_kept (fun vs H Q E h => ?_) (fun cdv A outer s H vs Q E hr h => ?_)
  · obtain ⟨_, _, _, _, _, _, _, rfl, _⟩ := h
    rfl
  · obtain ⟨v, l, sit, k, g, u, s, rfl, ⟨ga, t, pv', rfl, hg, ht, hp⟩, h0, hl, hs, ok, q⟩ := h
    refine ⟨_, (pss_cons (ps_set (i := 4) sc_extremes_kept.nd rfl (Or.inl rfl) (pe_lst pa_nil))
      (pss_cons (ps_par (i := 5) (j := 6) (by rfl) sc_extremes_kept.nd rfl rfl (by decide) rfl rfl (pa_cons (pe_lst pa_nil) (pa_cons pe_non pa_nil)) (by rfl))
      (pss_cons (ps_for PassesOwn.never rfl (pi_list (pv 0)) (pgTup K 2 rfl (pgs_cons (pg_name (i := 7) sc_extremes_kept.nd rfl (Or.inl rfl)) (pgs_cons (pg_name (i := 8) sc_extremes_kept.nd rfl (Or.inl rfl)) pgs_nil)))
        (pss_cons (ps_set (i := 5) sc_extremes_kept.nd rfl (Or.inl rfl) (pe_op op_cat (pv 5) (pv 8)))
        (pss_cons (ps_set (i := 9) sc_extremes_kept.nd rfl (Or.inl rfl) (pe_call (ok_class_for T) (hr.mono (by decide)) (by rfl) T.d_class_for.g T.d_class_for.F.kp T.d_class_for.b .nil pass0 (pa_cons (pv 3) (pa_cons (pv 2) (pa_cons (pe_call (ok_extreme_of T) (hr.mono (by decide)) (by rfl) T.d_extreme_of.g T.d_extreme_of.F.kp T.d_extreme_of.b .nil pass0 (pa_cons (pv 5) (pa_cons (pv 2) pa_nil))) pa_nil)))))
        (pss_cons (ps_if (PW.pt (pw_and (pt_cmpR op_notN (pv 9) pe_non (nomark _)) (pw_and1 (pt_cmpR op_ne (pv 9) (pv 6) (nomark _)))))
          (pss_one (ps_expr (pe_bm PySem.F.plainAttrs_list PySem.F.slot_list_append PySem.F.type_list_append mt_append (pv 4) (pa_cons (pe_tup (pa_cons (pe_tup (pa_cons (pv 7) (pa_cons (pv 1) (pa_cons (pv 9) pa_nil)))) (pa_cons pe_int pa_nil))) pa_nil))))
          pss_nil)
        (pss_one (ps_set (i := 6) sc_extremes_kept.nd rfl (Or.inl rfl) (pv 9)))))))
      (pss_one (ps_ret (pv 4)))))), ?_⟩
    refine ⟨(by show 0 ≤ sizeLine; decide), fun p np => ?_⟩
    have s1 : Same H (upd H p (.lst [])) := same_new np
    refine ⟨(by show 0 ≤ sizeLine; decide), fun p2 np2 => ⟨_, _, rfl, ?_⟩⟩
    have s2 := s1.trans (same_new (o := .lst []) np2)
    have pp : p2 ≠ p := fun e => by rw [e, upd_same] at np2; cases np2
    refine ⟨_, rfl, ga, rfl, ⟨_, SqL.of (s2 _ _ hg)⟩, ?_⟩
    refine for_one (fun σ' H' => Same H H' ∧ σ'[4]? = some (some (.ref p)) ∧ ∃ ys, H' p = some (.lst ys) ∧ Paired (PairV H') ys (toRows k (Td.rowOf l ((clsFor s g (extFor g sit)).map fun c => (c, 1))))) (SqL.of (s2 _ _ hg)) (fun σ' H' n => ?_) ?_
    · obtain ⟨sm, e3, ys, hy, py⟩ := n
      exact ⟨SqL.of (sm _ _ hg), _, e3, q _ _ sm ⟨p, ys, rfl, hy, py⟩⟩
    · refine ⟨t, _, rfl, SqT.of (s2 _ _ ht), rfl, _, _, rfl, _, _, rfl, rfl, ?_⟩
      obtain ⟨pa, xs, rfl, hpa, hpx⟩ := id hp
      have lx : xs.length ≤ 1000 := by rw [Paired.length hpx]; exact hl
      refine ⟨_, rfl, _, rfl, p2, pa, [], xs, rfl, rfl, upd_same, s2 _ _ hpa, size1000 (by simpa using lx), fun p3 np3 => ?_⟩
      have s3 := s2.trans (same_new (o := .lst ([] ++ xs)) np3)
      have hp3 : PtsV (upd (upd (upd H p (.lst [])) p2 (.lst [])) p3 (.lst ([] ++ xs))) (.ref p3) sit := ⟨p3, xs, rfl, upd_same, pmap hpx fun _ _ z => z.mono (tup_of s3)⟩
      have h3p : (upd (upd (upd H p (.lst [])) p2 (.lst [])) p3 (.lst ([] ++ xs))) p = some (.lst []) := same_new np3 _ _ (by rw [upd_ne pp.symm]; exact upd_same)
      refine ⟨_, rfl, _, rfl, _, rfl, _, rfl, _, g, sit, rfl, hp3, h0, hl, fun H4 s4 => ?_⟩
      refine ⟨u, s, g, _, rfl, hs.mono (tup_of (s3.trans s4)), ok, fun H5 s5 => ?_⟩
      have sm := s3.trans (s4.trans s5)
      have h5 := s5 _ _ (s4 _ _ h3p)
      cases hc : clsFor s g (extFor g sit) with
      | none =>
        rw [hc] at q
        refine ⟨_, rfl, rfl, _, rfl, iteF (iteF ?_)⟩
        exact ⟨_, rfl, sm, rfl, _, h5, .nil⟩
      | some c =>
        rw [hc] at q
        refine ⟨_, rfl, rfl, _, rfl, iteT ⟨_, rfl, _, rfl, rfl, _, rfl, iteT ?_⟩⟩
        refine ⟨_, rfl, .inl ⟨rfl, _, SqL.of h5⟩, ?_⟩
        refine ⟨_, rfl, _, rfl, _, rfl, (by show 3 ≤ sizeLine; decide), fun c1 hc1 => ?_⟩
        refine ⟨(by show 2 ≤ sizeLine; decide), fun b1 hb1 => ?_⟩
        obtain ⟨r1, r2, r3⟩ := putR_ok (r := (l, k, c)) (n := 1) sm np h5 .nil hc1 hb1
        refine ⟨p, [], _, rfl, rfl, putR_at (r := (l, k, c)) h5 hc1 hb1, (by decide), ?_⟩
        exact ⟨_, rfl, r1, rfl, _, r2, r3⟩
end
end L2.K21
namespace L2.K21
open PySem PySem.Spec PyProof.Rows
open TdS (RowA ltR SortedOf)
section
variable {P : Program} {w : World} {K : PySem.W.Frag} {mg : PySem.Str → Option Value} {base : Heap}
def spSums : Sp := fun vs H Q _ => ∃ v l sit k u s, vs = [v, .str k, u] ∧ GrpV H v l sit ∧ sit.length ≤ 1000 ∧ (∀ p ∈ sit, 0 < p.2.2 ∧ p.2.2 ≤ 1000000) ∧ ShowV H u s ∧
  ∀ x H', Same H H' → BagV H' x (toRows k (Td.rowOf l (Td.aggV (swOf s) .sum sit))) → Q x H'
theorem agg_all {s : Sh} {sit : List Td.Pt} (h1 : s.fac = 0) (h2 : allS s = true) : Td.aggV (swOf s) .sum sit = some (0, 1) := by
  show (if s.fac = 0 ∧ allS s = true then some ((0 : Int), (1 : Int)) else _) = _
  rw [if_pos ⟨h1, h2⟩]
theorem agg_tot {s : Sh} {sit : List Td.Pt} (h : ¬ (s.fac = 0 ∧ allS s = true)) (c : Td.tot sit ≠ 0 ∨ inS s 0 = true) : Td.aggV (swOf s) .sum sit = some (Td.tot sit, 1) := by
  show (if s.fac = 0 ∧ allS s = true then some ((0 : Int), (1 : Int)) else if Td.tot sit ≠ 0 ∨ inS s 0 = true then some (Td.tot sit, 1) else none) = _
  rw [if_neg h, if_pos c]
theorem agg_no {s : Sh} {sit : List Td.Pt} (h : ¬ (s.fac = 0 ∧ allS s = true)) (c : ¬ (Td.tot sit ≠ 0 ∨ inS s 0 = true)) : Td.aggV (swOf s) .sum sit = none := by
  show (if s.fac = 0 ∧ allS s = true then some ((0 : Int), (1 : Int)) else if Td.tot sit ≠ 0 ∨ inS s 0 = true then some (Td.tot sit, 1) else none) = _
  rw [if_neg h, if_neg c]
def TimV (t : Addr) (H : Hp) (v : V) (l : Int) : Prop := v = .ref t ∧ ∃ pv, H t = some (.tup [.int l, pv])
theorem sc_sums_kept : FnScope ["groups", "key", "show", "pairs", "index", "start", "parts", "total"] ["groups", "key", "show"] (defScope (topS 25)) := ⟨rfl, rfl, rfl, by decide +kernel, rfl, by decide +kernel, by decide +kernel⟩
theorem ok_sums_kept (T : Txt K mg) : FnOk P w K mg base CX0 3 T.d_sums_kept.f T.d_sums_kept.fd ["groups", "key", "show"] spSums := by
  refine T.d_sums_kept.F.ok sc_sums_kept (fun vs H Q E h => ?_) (fun cdv A outer s H vs Q E hr h => ?_)
  · obtain ⟨_, _, _, _, _, _, rfl, _⟩ := h
    rfl
  · obtain ⟨v, l, sit, k, u, s, rfl, ⟨ga, t, pv', rfl, hg, ht, hp⟩, hl, hb, hs, q⟩ := h
    refine ⟨_, (pss_cons (ps_if (PW.pt (pw_and (pt_cmpR op_eq (pe_ix (ixT K) (pv 2) pe_int (fun _ _ => rfl)) pe_int (nomark _)) (pw_and1 (pt_val (pe_call (ok_shows_all T) (hr.mono (by decide)) (by rfl) T.d_shows_all.g T.d_shows_all.F.kp T.d_shows_all.b .nil pass0 (pa_cons (pv 2) pa_nil))))))
        (pss_one (ps_ret (pe_lc (own := [("start", 5), ("parts", 6)]) (by rfl) sc_sums_kept.nd (pi_list (pe_slice sl_list (pv 0) po_none (po_some pe_int))) (blkOk_by (own := [("start", 5), ("parts", 6)]) (N := ["groups", "key", "show", "pairs", "index", "start", "parts", "total"]) (sc := defScope (topS 25)) (by decide +kernel)) (fun _ _ _ _ _ => (pgTup K 2 rfl (pgs_cons (pg_name (i := 5) sc_sums_kept.nd rfl (Or.inl rfl)) (pgs_cons (pg_name (i := 6) sc_sums_kept.nd rfl (Or.inl rfl)) pgs_nil)))) (fun _ _ _ _ _ => pts_nil) (fun _ _ _ _ _ => (pe_tup (pa_cons (pe_tup (pa_cons (pv 5) (pa_cons (pv 1) (pa_cons pe_int pa_nil)))) (pa_cons pe_int pa_nil)))))))
        pss_nil)
      (pss_cons (ps_set (i := 3) sc_sums_kept.nd rfl (Or.inl rfl) (pe_lst pa_nil))
      (pss_cons (ps_for PassesOwn.never rfl (pi_enum (by rfl) T.z_enumerate (pa_cons (pv 0) pa_nil)) (pgTup K 2 rfl (pgs_cons (pg_name (i := 4) sc_sums_kept.nd rfl (Or.inl rfl)) (pgs_cons (pgTup K 2 rfl (pgs_cons (pg_name (i := 5) sc_sums_kept.nd rfl (Or.inl rfl)) (pgs_cons (pg_name (i := 6) sc_sums_kept.nd rfl (Or.inl rfl)) pgs_nil))) pgs_nil)))
        (pss_cons (ps_set (i := 7) sc_sums_kept.nd rfl (Or.inl rfl) (pe_call (ok_sum_of T) (hr.mono (by decide)) (by rfl) T.d_sum_of.g T.d_sum_of.F.kp T.d_sum_of.b .nil pass0 (pa_cons (pv 6) pa_nil)))
        (pss_one (ps_if (PW.pt (pw_or (pt_cmpR op_ne (pv 7) pe_int (nomark _)) (pw_or1 (PW.pt (pw_and (pt_cmpR op_eq (pv 4) pe_int (nomark _)) (pw_and1 (pt_val (pe_call (ok_is_shown T) (hr.mono (by decide)) (by rfl) T.d_is_shown.g T.d_is_shown.F.kp T.d_is_shown.b .nil pass0 (pa_cons (pv 2) (pa_cons pe_int pa_nil))))))))))
          (pss_one (ps_expr (pe_bm PySem.F.plainAttrs_list PySem.F.slot_list_append PySem.F.type_list_append mt_append (pv 3) (pa_cons (pe_tup (pa_cons (pe_tup (pa_cons (pv 5) (pa_cons (pv 1) (pa_cons (pv 7) pa_nil)))) (pa_cons pe_int pa_nil))) pa_nil))))
          pss_nil))))
      (pss_one (ps_ret (pv 3)))))), ?_⟩
    obtain ⟨a, kv, ho, nv, rfl, h1, hk, h3⟩ := id hs
    refine ⟨_, rfl, _, _, _, _, rfl, rfl, SqT.of h1, rfl, rfl, _, rfl, ite2 (fun c => ?_) fun c => ?_⟩
    · have f0 : s.fac = 0 := V.int.inj (of_decide_eq_true c)
      refine ⟨_, rfl, _, s, rfl, hs, fun H1 sm => ⟨_, rfl, ite2 (fun c2 => ?_) fun c2 => ?_⟩⟩
      · rw [agg_all f0 c2] at q
        refine ⟨_, rfl, _, rfl, ga, _, rfl, SqL.of (sm _ _ hg), fun p np => ?_⟩
        refine ⟨p, rfl, ⟨_, SqL.of upd_same⟩, fun D nD => ?_⟩
        have s1 := sm.trans (same_new (o := .lst (cutV [.ref t] none (some 1))) np)
        refine lc_fm (xs := [.ref t]) (l := [l]) (F := TimV t) (G := PairV) (fun x : Int => some (((x, k, 0), 1) : Row × Int)) nD (SqL.of upd_same) (.cons ⟨rfl, pv', s1 _ _ ht⟩ .nil) (fun _ _ _ _ t ⟨h1, pv, h2⟩ => ⟨h1, pv, t _ _ h2⟩) (fun _ _ _ _ => PairV.mono) (show 1 < sizeLine by decide) (fun y x H2 R R' hm fx s2 r1 r2 => ?_) fun H2 ys s2 hy py => ?_
        · obtain ⟨rfl, pv2, ht2⟩ := fx
          refine ⟨t, _, rfl, SqT.of ht2, rfl, _, _, rfl, _, _, rfl, rfl, rfl, ?_⟩
          refine iteT (B := R' H2) ⟨_, rfl, _, rfl, (by show 3 ≤ sizeLine; decide), fun c1 hc1 => ⟨(by show 2 ≤ sizeLine; decide), fun b1 hb1 => ?_⟩⟩
          exact r1 _ ((y, k, 0), 1) _ rfl ((same_new hc1).trans (same_new hb1)) ⟨b1, c1, rfl, upd_same, same_new hb1 _ _ upd_same⟩
        · exact q _ _ (s1.trans s2) ⟨D, ys, rfl, hy, py⟩
      · have no : ¬ (s.fac = 0 ∧ allS s = true) := fun z => c2 z.2
        refine ⟨(by show 0 ≤ sizeLine; decide), fun p np => ?_⟩
        have s1 := sm.trans (same_new (o := .lst []) np)
        have np0 : H p = none := sm.free np
        refine ⟨_, rfl, ga, _, rfl, SqL.of (s1 _ _ hg), ?_⟩
        refine enum_one (fun σ' H' => Same H H' ∧ σ'[3]? = some (some (.ref p)) ∧ ∃ ys, H' p = some (.lst ys) ∧ Paired (PairV H') ys (toRows k (Td.rowOf l (Td.aggV (swOf s) .sum sit)))) (SqL.of (s1 _ _ hg)) (fun σ' H' n => ?_) fun e ne => ?_
        · obtain ⟨sm, e3, ys, hy, py⟩ := n
          exact ⟨SqL.of (sm _ _ hg), _, e3, q _ _ sm ⟨p, ys, rfl, hy, py⟩⟩
        · have s2 := s1.trans (same_new (o := .tup [.int 0, .ref t]) ne)
          have hpe : (upd (upd H1 p (.lst [])) e (.tup [.int 0, .ref t])) p = some (.lst []) := same_new ne _ _ upd_same
          refine ⟨e, _, rfl, SqT.of upd_same, rfl, _, _, rfl, _, _, rfl, ⟨t, _, rfl, SqT.of (s2 _ _ ht), rfl, _, _, rfl, _, _, rfl, rfl, rfl, ?_⟩⟩
          refine ⟨_, rfl, pv', sit, rfl, hp.mono s2, hl, hb, fun H2 s3 => ?_⟩
          have s4 := s2.trans s3
          have h2p := s3 _ _ hpe
          refine ⟨_, rfl, rfl, _, rfl, ite2 (fun d => ?_) fun d => ?_⟩
          · have d' : Td.tot sit ≠ 0 := fun z => by rw [z] at d; cases d
            refine iteT ⟨_, rfl, .inl ⟨rfl, _, SqL.of h2p⟩, _, rfl, _, rfl, _, rfl, (by show 3 ≤ sizeLine; decide), fun c1 hc1 => ⟨(by show 2 ≤ sizeLine; decide), fun b1 hb1 => ?_⟩⟩
            obtain ⟨r1, r2, r3⟩ := putR_ok (r := (l, k, Td.tot sit)) (n := 1) s4 np0 h2p .nil hc1 hb1
            refine ⟨p, [], _, rfl, rfl, putR_at (r := (l, k, Td.tot sit)) h2p hc1 hb1, (by decide), r1, rfl, _, r2, ?_⟩
            rw [agg_tot no (.inl d')]
            exact r3
          · have d' : Td.tot sit = 0 := by
              cases hd : decide (V.int (Td.tot sit) = V.int 0) with
              | true => exact V.int.inj (of_decide_eq_true hd)
              | false => exact absurd (show (!decide (V.int (Td.tot sit) = V.int 0)) = true by rw [hd]; rfl) d
            refine ⟨_, rfl, rfl, _, rfl, iteT ⟨_, rfl, _, s, 0, rfl, hs.mono (tup_of s4), _, rfl, ite2 (fun z => ?_) fun z => ?_⟩⟩
            · refine ⟨_, rfl, .inl ⟨rfl, _, SqL.of h2p⟩, _, rfl, _, rfl, _, rfl, (by show 3 ≤ sizeLine; decide), fun c1 hc1 => ⟨(by show 2 ≤ sizeLine; decide), fun b1 hb1 => ?_⟩⟩
              obtain ⟨r1, r2, r3⟩ := putR_ok (r := (l, k, Td.tot sit)) (n := 1) s4 np0 h2p .nil hc1 hb1
              refine ⟨p, [], _, rfl, rfl, putR_at (r := (l, k, Td.tot sit)) h2p hc1 hb1, (by decide), r1, rfl, _, r2, ?_⟩
              rw [agg_tot no (.inr z)]
              exact r3
            · refine ⟨s4, rfl, _, h2p, ?_⟩
              rw [agg_no no (fun x => x.elim (fun x => x d') z)]
              exact .nil
    · have no : ¬ (s.fac = 0 ∧ allS s = true) := fun z => c (decide_eq_true (by rw [z.1]))
      refine iteF ⟨(by show 0 ≤ sizeLine; decide), fun p np => ?_⟩
      have s1 : Same H (upd H p (.lst [])) := same_new np
      refine ⟨_, rfl, ga, _, rfl, SqL.of (s1 _ _ hg), ?_⟩
      refine enum_one (fun σ' H' => Same H H' ∧ σ'[3]? = some (some (.ref p)) ∧ ∃ ys, H' p = some (.lst ys) ∧ Paired (PairV H') ys (toRows k (Td.rowOf l (Td.aggV (swOf s) .sum sit)))) (SqL.of (s1 _ _ hg)) (fun σ' H' n => ?_) fun e ne => ?_
      · obtain ⟨sm, e3, ys, hy, py⟩ := n
        exact ⟨SqL.of (sm _ _ hg), _, e3, q _ _ sm ⟨p, ys, rfl, hy, py⟩⟩
      · have s2 := s1.trans (same_new (o := .tup [.int 0, .ref t]) ne)
        have hpe : (upd (upd H p (.lst [])) e (.tup [.int 0, .ref t])) p = some (.lst []) := same_new ne _ _ upd_same
        refine ⟨e, _, rfl, SqT.of upd_same, rfl, _, _, rfl, _, _, rfl, ⟨t, _, rfl, SqT.of (s2 _ _ ht), rfl, _, _, rfl, _, _, rfl, rfl, rfl, ?_⟩⟩
        refine ⟨_, rfl, pv', sit, rfl, hp.mono s2, hl, hb, fun H2 s3 => ?_⟩
        have s4 := s2.trans s3
        have h2p := s3 _ _ hpe
        refine ⟨_, rfl, rfl, _, rfl, ite2 (fun d => ?_) fun d => ?_⟩
        · have d' : Td.tot sit ≠ 0 := fun z => by rw [z] at d; cases d
          refine iteT ⟨_, rfl, .inl ⟨rfl, _, SqL.of h2p⟩, _, rfl, _, rfl, _, rfl, (by show 3 ≤ sizeLine; decide), fun c1 hc1 => ⟨(by show 2 ≤ sizeLine; decide), fun b1 hb1 => ?_⟩⟩
          obtain ⟨r1, r2, r3⟩ := putR_ok (r := (l, k, Td.tot sit)) (n := 1) s4 np h2p .nil hc1 hb1
          refine ⟨p, [], _, rfl, rfl, putR_at (r := (l, k, Td.tot sit)) h2p hc1 hb1, (by decide), r1, rfl, _, r2, ?_⟩
          rw [agg_tot no (.inl d')]
          exact r3
        · have d' : Td.tot sit = 0 := by
            cases hd : decide (V.int (Td.tot sit) = V.int 0) with
            | true => exact V.int.inj (of_decide_eq_true hd)
            | false => exact absurd (show (!decide (V.int (Td.tot sit) = V.int 0)) = true by rw [hd]; rfl) d
          refine ⟨_, rfl, rfl, _, rfl, iteT ⟨_, rfl, _, s, 0, rfl, hs.mono (tup_of s4), _, rfl, ite2 (fun z => ?_) fun z => ?_⟩⟩
          · refine ⟨_, rfl, .inl ⟨rfl, _, SqL.of h2p⟩, _, rfl, _, rfl, _, rfl, (by show 3 ≤ sizeLine; decide), fun c1 hc1 => ⟨(by show 2 ≤ sizeLine; decide), fun b1 hb1 => ?_⟩⟩
            obtain ⟨r1, r2, r3⟩ := putR_ok (r := (l, k, Td.tot sit)) (n := 1) s4 np h2p .nil hc1 hb1
            refine ⟨p, [], _, rfl, rfl, putR_at (r := (l, k, Td.tot sit)) h2p hc1 hb1, (by decide), r1, rfl, _, r2, ?_⟩
            rw [agg_tot no (.inr z)]
            exact r3
          · refine ⟨s4, rfl, _, h2p, ?_⟩
            rw [agg_no no (fun x => x.elim (fun x => x d') z)]
            exact .nil
def spGroups : Sp := fun vs H Q _ => ∃ v l sit k g u s, vs = [v, .str k, .str (agS g), u] ∧ GrpV H v l sit ∧ sit ≠ [] ∧ sit.length ≤ 1000 ∧ (∀ p ∈ sit, 0 < p.2.2 ∧ p.2.2 ≤ 1000000) ∧ ShowV H u s ∧ ShOk s ∧
  ∀ x H', Same H H' → BagV H' x (toRows k (Td.rowOf l (Td.aggV (swOf s) g sit))) → Q x H'
theorem sc_groups_kept : FnScope ["groups", "key", "aggregate", "show"] ["groups", "key", "aggregate", "show"] (defScope (topS 27)) := ⟨rfl, rfl, rfl, by decide +kernel, rfl, by decide +kernel, by decide +kernel⟩
theorem ok_groups_kept (T : Txt K mg) : FnOk P w K mg base CX0 7 T.d_groups_kept.f T.d_groups_kept.fd ["groups", "key", "aggregate", "show"] spGroups := by
  refine T.d_groups_kept.F.ok sc_groups_kept (fun vs H Q E h => ?_) (fun cdv A outer s H vs Q E hr h => ?_)
  · obtain ⟨_, _, _, _, _, _, _, rfl, _⟩ := h
    rfl
  · obtain ⟨v, l, sit, k, g, u, s, rfl, hg, h0, hl, hb, hs, ok, q⟩ := h
    refine ⟨_, (pss_cons (ps_if (pt_cmpR op_eq (pv 2) pe_str (nomark _))
        (pss_one (ps_ret (pe_call (ok_counts_kept T) (hr.mono (by decide)) (by rfl) T.d_counts_kept.g T.d_counts_kept.F.kp T.d_counts_kept.b .nil pass0 (pa_cons (pv 0) (pa_cons (pv 1) (pa_cons (pe_call (ok_count_limit T) (hr.mono (by decide)) (by rfl) T.d_count_limit.g T.d_count_limit.F.kp T.d_count_limit.b .nil pass0 (pa_cons (pv 3) pa_nil)) pa_nil))))))
        pss_nil)
      (pss_cons (ps_if (pt_cmpR op_eq (pv 2) pe_str (nomark _))
        (pss_one (ps_ret (pe_call (ok_sums_kept T) (hr.mono (by decide)) (by rfl) T.d_sums_kept.g T.d_sums_kept.F.kp T.d_sums_kept.b .nil pass0 (pa_cons (pv 0) (pa_cons (pv 1) (pa_cons (pv 3) pa_nil))))))
        pss_nil)
      (pss_one (ps_ret (pe_call (ok_extremes_kept T) (hr.mono (by decide)) (by rfl) T.d_extremes_kept.g T.d_extremes_kept.F.kp T.d_extremes_kept.b .nil pass0 (pa_cons (pv 0) (pa_cons (pv 1) (pa_cons (pv 2) (pa_cons (pv 3) pa_nil))))))))), ?_⟩
    cases g with
    | count => exact ⟨_, rfl, rfl, _, rfl, iteT ⟨_, rfl, _, rfl, _, rfl, u, s, rfl, hs, v, l, sit, k, limS s, rfl, hg, hl, q⟩⟩
    | sum => exact ⟨_, rfl, rfl, _, rfl, iteF ⟨_, rfl, rfl, _, rfl, iteT ⟨_, rfl, _, rfl, _, rfl, v, l, sit, k, u, s, rfl, hg, hl, hb, hs, q⟩⟩⟩
    | least => exact ⟨_, rfl, rfl, _, rfl, iteF ⟨_, rfl, rfl, _, rfl, iteF ⟨_, rfl, _, rfl, _, rfl, _, rfl, v, l, sit, k, .least, u, s, rfl, hg, h0, hl, hs, ok, q⟩⟩⟩
    | greatest => exact ⟨_, rfl, rfl, _, rfl, iteF ⟨_, rfl, rfl, _, rfl, iteF ⟨_, rfl, _, rfl, _, rfl, _, rfl, v, l, sit, k, .greatest, u, s, rfl, hg, h0, hl, hs, ok, q⟩⟩⟩
end
end L2.K21
namespace L2.K21
open PySem PySem.Spec PyProof.Rows
open TdS (RowA ltR SortedOf)
section
variable {P : Program} {w : World} {K : PySem.W.Frag} {mg : PySem.Str → Option Value} {base : Heap}
/-! ### last_sitting -/
theorem cut_drop {xs : List V} {f : Nat} (h : f ≤ xs.length) : cutV xs (some (f : Int)) none = xs.drop f := by
  unfold cutV
  rw [HT.sIx_nat, HT.sIx_none, Nat.min_eq_left h]
  exact List.take_of_length_le (by rw [List.length_drop]; exact Nat.le_refl _)
def spLastSit : Sp := fun vs H Q _ => ∃ v l gap, vs = [v, .int gap] ∧ PtsV H v l ∧ l ≠ [] ∧ l.length ≤ 1000 ∧ ∀ u H', Same H H' → PtsV H' u (Td.lastSit gap l) → Q u H'
theorem sc_last_sitting : FnScope ["parts", "gap", "first"] ["parts", "gap"] (defScope (topS 28)) := ⟨rfl, rfl, rfl, by decide +kernel, rfl, by decide +kernel, by decide +kernel⟩
theorem ok_last_sitting (T : Txt K mg) : FnOk P w K mg base CX0 1 T.d_last_sitting.f T.d_last_sitting.fd ["parts", "gap"] spLastSit := by
  refine T.d_last_sitting.F.ok sc_last_sitting (fun vs H Q E h => ?_) (fun cdv A outer s H vs Q E hr h => ?_)
  · obtain ⟨_, _, _, rfl, _⟩ := h
    rfl
  · obtain ⟨v, l, gap, rfl, ⟨a, xs, rfl, ha, hp⟩, h0, hl, q⟩ := h
    refine ⟨_, (pss_cons (ps_set (i := 2) sc_last_sitting.nd rfl (Or.inl rfl) (pe_op op_sub (pe_callB call_len_seq (by rfl) T.z_len (by decide +kernel) (pa_cons (pv 0) pa_nil)) pe_int))
      (pss_cons (ps_while PassesOwn.never (PW.pt (pw_and (pt_cmpR op_gt (pv 2) pe_int (nomark _)) (pw_and1 (pt_cmpR op_le (pe_op op_sub (pe_ix (ixT K) (pe_ix (ixL K) (pv 0) (pv 2) (fun _ _ => rfl)) pe_int (fun _ _ => rfl)) (pe_ix (ixT K) (pe_ix (ixL K) (pv 0) (pe_op op_sub (pv 2) pe_int) (fun _ _ => rfl)) pe_int (fun _ _ => rfl))) (pv 1) (nomark _)))))
        (pss_one (ps_aug (i := 2) sc_last_sitting.nd rfl (Or.inl rfl) pe_int ip_sub)))
      (pss_one (ps_ret (pe_slice sl_list (pv 0) (po_some (pv 2)) po_none))))), ?_⟩
    have len : xs.length = l.length := Paired.length hp
    have lp : 0 < l.length := List.length_pos_iff.mpr h0
    refine ⟨_, rfl, a, _, rfl, .inl (SqL.of ha), _, _, rfl, rfl, ?_⟩
    have get : ∀ {j : Nat}, j < l.length → ∃ p t, l[j]? = some p ∧ xs[j]? = some (.ref t) ∧ H t = some (.tup [.int p.1, .int p.2.1, .int p.2.2]) := fun {j} hj => by
      obtain ⟨x, hx, t, rfl, ht⟩ := pair_got (i := j) hp (List.getElem?_eq_getElem hj)
      exact ⟨l[j], t, List.getElem?_eq_getElem hj, hx, ht⟩
    refine ⟨fun m σ' H' => H' = H ∧ ∃ f : Nat, m = f ∧ f < l.length ∧ σ' = [some (.ref a), some (.int gap), some (.int (f : Int))] ∧ ∀ j p q, f ≤ j → l[j]? = some p → l[j + 1]? = some q → q.1 - p.1 ≤ gap,
      ⟨l.length - 1, rfl, l.length - 1, rfl, by omega, ?_, fun j p q hj _ hq => ?_⟩, fun m σ' H' hW => ?_⟩
    · have e : ((xs.length : Nat) : Int) - 1 = ((l.length - 1 : Nat) : Int) := by omega
      rw [← e]
      rfl
    · have := (List.getElem?_eq_some_iff.mp hq).1
      omega
    · obtain ⟨rfl, f, rfl, hf, rfl, near⟩ := hW
      have out : (∀ p q, 0 < m → l[m - 1]? = some p → l[m]? = some q → gap < q.1 - p.1) → ∀ u, H' u = none → Q (.ref u) (upd H' u (.lst (cutV xs (some (m : Int)) none))) := fun far u hu => by
        rw [cut_drop (by omega)]
        refine q _ _ (same_new hu) ⟨u, _, rfl, upd_same, ?_⟩
        rw [← Td.lastSit_drop hf near far]
        exact pmap (pair_drop hp m) fun _ _ z => z.mono (tup_new hu)
      refine ⟨_, rfl, _, _, rfl, rfl, _, rfl, ite2 (fun c => ?_) fun c => ?_⟩
      · have c' : 0 < m := by
          have := of_decide_eq_true c
          omega
        obtain ⟨p1, t1, g1, x1, e1⟩ := get hf
        obtain ⟨p2, t2, g2, x2, e2⟩ := get (j := m - 1) (by omega)
        refine ⟨_, rfl, _, rfl, _, _, _, _, rfl, rfl, SqL.of ha, atI_nat x1, _, _, _, _, rfl, rfl, SqT.of e1, rfl, ?_⟩
        refine ⟨_, rfl, _, rfl, _, _, rfl, rfl, _, _, _, _, rfl, rfl, SqL.of ha, at_of (j := m - 1) (by omega) x2, _, _, _, _, rfl, rfl, SqT.of e2, rfl, ?_⟩
        refine ⟨_, _, rfl, rfl, _, rfl, _, _, rfl, rfl, _, rfl, ite2 (fun d => ?_) fun d => ?_⟩
        · refine ⟨fun σ1 H1 => H1 = H' ∧ σ1 = [some (.ref a), some (.int gap), some (.int ((m : Int) - 1))], fun σ1 H1 n => ?_, ?_⟩
          · obtain ⟨rfl, rfl⟩ := n
            refine ⟨m - 1, by omega, rfl, m - 1, rfl, by omega, by rw [show ((m - 1 : Nat) : Int) = (m : Int) - 1 by omega], fun j p q' hj hjp hjq => ?_⟩
            by_cases z : m ≤ j
            · exact near j p q' z hjp hjq
            · have ej : j = m - 1 := by omega
              subst ej
              rw [show m - 1 + 1 = m by omega] at hjq
              rw [g1] at hjq
              rw [g2] at hjp
              cases hjq
              cases hjp
              exact of_decide_eq_true d
          · exact ⟨_, rfl, _, _, rfl, rfl, rfl, rfl⟩
        · refine ⟨_, rfl, _, rfl, _, rfl, a, xs, rfl, SqL.of ha, out fun p q' _ hjp hjq => ?_⟩
          rw [g1] at hjq
          rw [g2] at hjp
          cases hjq
          cases hjp
          have := of_decide_eq_false (Bool.eq_false_iff.mpr d)
          omega
      · have c' := of_decide_eq_false (Bool.eq_false_iff.mpr c)
        exact ⟨_, rfl, _, rfl, _, rfl, a, xs, rfl, SqL.of ha, out fun p q' h => absurd h (by omega)⟩
/-! ### values_by_key -/
def ptOf (p : Row × Int) : Td.Pt := (p.1.1, p.1.2.2, p.2)
def partsK (l : List (Row × Int)) (k : PySem.Str) : List Td.Pt := (l.filter fun p => decide (p.1.2.1 = k)).map ptOf
theorem partsK_snoc_same (l : List (Row × Int)) (p : Row × Int) : partsK (l ++ [p]) p.1.2.1 = partsK l p.1.2.1 ++ [ptOf p] := by
  unfold partsK
  rw [List.filter_append, List.map_append, List.filter_cons, if_pos (decide_eq_true rfl), List.filter_nil]
  rfl
theorem partsK_snoc_ne (l : List (Row × Int)) {p : Row × Int} {k : PySem.Str} (h : p.1.2.1 ≠ k) : partsK (l ++ [p]) k = partsK l k := by
  unfold partsK
  rw [List.filter_append, List.filter_cons, if_neg (by simpa using h), List.filter_nil, List.append_nil]
theorem partsK_len (l : List (Row × Int)) (k : PySem.Str) : (partsK l k).length ≤ l.length := by
  unfold partsK
  rw [List.length_map]
  exact List.length_filter_le ..
abbrev entK (e : PySem.Str × Addr) : Key × V := (.inr e.1, .ref e.2)
theorem valV_ent : ∀ {es : List (PySem.Str × Addr)} {k : PySem.Str} {v : V}, valV (es.map entK) (.inr k) = some v → ∃ e ∈ es, e.1 = k ∧ v = .ref e.2
  | [], k, v, h => by cases h
  | e :: es, k, v, h => by
    by_cases c : e.1 = k
    · rw [List.map_cons, valV_pos (congrArg Sum.inr c)] at h
      cases h
      exact ⟨e, List.mem_cons_self .., c, rfl⟩
    · rw [List.map_cons, valV_neg (fun z => c (Sum.inr.inj z))] at h
      obtain ⟨e', h1, h2⟩ := valV_ent h
      exact ⟨e', List.mem_cons_of_mem _ h1, h2⟩
theorem valV_ent_none : ∀ {es : List (PySem.Str × Addr)} {k : PySem.Str}, valV (es.map entK) (.inr k) = none → ∀ e ∈ es, e.1 ≠ k
  | [], k, h, e, he => by simp at he
  | e0 :: es, k, h, e, he => by
    by_cases c : e0.1 = k
    · rw [List.map_cons, valV_pos (congrArg Sum.inr c)] at h
      cases h
    · rw [List.map_cons, valV_neg (fun z => c (Sum.inr.inj z))] at h
      rcases List.mem_cons.mp he with rfl | he
      · exact c
      · exact valV_ent_none h e he
/-- the dict by keys, behind the rows d -/
structure ByK (H0 H : Hp) (fo : Addr) (d : List (Row × Int)) (es : List (PySem.Str × Addr)) : Prop where
  same : Same H0 H
  at_ : H fo = some (.dK (es.map entK))
  keys : (es.map (·.1)).Nodup
  adr : (es.map (·.2)).Nodup
  ent : ∀ e ∈ es, H0 e.2 = none ∧ partsK d e.1 ≠ [] ∧ PtsV H (.ref e.2) (partsK d e.1)
  all : ∀ k, partsK d k ≠ [] → k ∈ es.map (·.1)
  few : es.length ≤ d.length
theorem nodup_inj {α β : Type} {f : α → β} : ∀ {l : List α}, (l.map f).Nodup → ∀ x ∈ l, ∀ y ∈ l, f x = f y → x = y
  | [], _, x, hx, _, _, _ => by simp at hx
  | a :: l, h, x, hx, y, hy, e => by
    rw [List.map_cons, List.nodup_cons] at h
    rcases List.mem_cons.mp hx with rfl | hx' <;> rcases List.mem_cons.mp hy with rfl | hy'
    · rfl
    · exact absurd (List.mem_map.mpr ⟨y, hy', e.symm⟩) h.1
    · exact absurd (List.mem_map.mpr ⟨x, hx', e⟩) h.1
    · exact nodup_inj h.2 x hx' y hy' e
theorem ByK.old {H0 H : Hp} {fo z tp : Addr} {d : List (Row × Int)} {es : List (PySem.Str × Addr)} (B : ByK H0 H fo d es) (hfo : H0 fo = none) (nz : H z = none) {p : Row × Int} {e : PySem.Str × Addr} (he : e ∈ es) (hk : e.1 = p.1.2.1)
    (nt : upd H z (.lst []) tp = none) {ys : List V} (hy : H e.2 = some (.lst ys)) (py : Paired (PtV H) ys (partsK d e.1)) :
    ByK H0 (upd (upd (upd H z (.lst [])) tp (.tup [.int p.1.1, .int p.1.2.2, .int p.2])) e.2 (.lst (ys ++ [.ref tp]))) fo (d ++ [p]) es := by
  have s1 : Same H (upd (upd H z (.lst [])) tp (.tup [.int p.1.1, .int p.1.2.2, .int p.2])) := (same_new nz).trans (same_new nt)
  have hy' := s1 _ _ hy
  have t3 := tup_lst (o := .lst (ys ++ [.ref tp])) hy'
  have ne : fo ≠ e.2 := fun z => by have := B.at_; rw [z, hy] at this; cases this
  refine ⟨same_upd (B.same.trans s1) (B.ent e he).1, ?_, B.keys, B.adr, fun e' he' => ?_, fun k hk' => ?_, ?_⟩
  · rw [upd_ne ne]
    exact s1 _ _ B.at_
  · obtain ⟨a1, a2, b, zs, e1, a3, a4⟩ := B.ent e' he'
    cases e1
    by_cases c : e' = e
    · subst c
      rw [hk, partsK_snoc_same]
      refine ⟨a1, by simp, e'.2, _, rfl, upd_same, ?_⟩
      rw [hk] at py
      refine (pmap py fun _ _ q => q.mono ((tup_of s1).trans t3)).snoc ⟨tp, rfl, t3 _ _ upd_same⟩
    · have nk : p.1.2.1 ≠ e'.1 := fun z => c (nodup_inj B.keys _ he' _ he (by rw [hk, z]))
      have na : e'.2 ≠ e.2 := fun z => c (nodup_inj B.adr _ he' _ he z)
      rw [partsK_snoc_ne d nk]
      refine ⟨a1, a2, e'.2, zs, rfl, ?_, pmap a4 fun _ _ q => q.mono ((tup_of s1).trans t3)⟩
      rw [upd_ne na]
      exact s1 _ _ a3
  · by_cases c : p.1.2.1 = k
    · exact List.mem_map.mpr ⟨e, he, by rw [hk, c]⟩
    · rw [partsK_snoc_ne d c] at hk'
      exact B.all k hk'
  · rw [List.length_append]
    exact Nat.le_add_right_of_le B.few
theorem ByK.new {H0 H : Hp} {fo z tp : Addr} {d : List (Row × Int)} {es : List (PySem.Str × Addr)} (B : ByK H0 H fo d es) (hfo : H0 fo = none) (nz : H z = none) {p : Row × Int} (hk : ∀ e ∈ es, e.1 ≠ p.1.2.1)
    (nt : upd (upd H z (.lst [])) fo (.dK (es.map entK ++ [(.inr p.1.2.1, .ref z)])) tp = none) :
    ByK H0 (upd (upd (upd (upd H z (.lst [])) fo (.dK (es.map entK ++ [(.inr p.1.2.1, .ref z)]))) tp (.tup [.int p.1.1, .int p.1.2.2, .int p.2])) z (.lst ([] ++ [.ref tp]))) fo (d ++ [p]) (es ++ [(p.1.2.1, z)]) := by
  have nzf : z ≠ fo := fun e => by rw [e, B.at_] at nz; cases nz
  have nz0 : H0 z = none := B.same.free nz
  have hz2 : upd (upd H z (.lst [])) fo (.dK (es.map entK ++ [(.inr p.1.2.1, .ref z)])) z = some (.lst []) := by rw [upd_ne nzf]; exact upd_same
  have ntz : z ≠ tp := ne_of_none hz2 nt
  have ntf : fo ≠ tp := ne_of_none (upd_same (o := .dK (es.map entK ++ [(.inr p.1.2.1, .ref z)]))) nt
  have hf1 : upd H z (.lst []) fo = some (.dK (es.map entK)) := by rw [upd_ne nzf.symm]; exact B.at_
  have t1 : Tup H (upd (upd H z (.lst [])) fo (.dK (es.map entK ++ [(.inr p.1.2.1, .ref z)]))) := (tup_new nz).trans (tup_dK hf1)
  have t2 := t1.trans (tup_new (o := .tup [.int p.1.1, .int p.1.2.2, .int p.2]) nt)
  have hz3 : (upd (upd (upd H z (.lst [])) fo (.dK (es.map entK ++ [(.inr p.1.2.1, .ref z)]))) tp (.tup [.int p.1.1, .int p.1.2.2, .int p.2])) z = some (.lst []) := by rw [upd_ne ntz]; exact hz2
  have t3 := t2.trans (tup_lst (o := .lst ([] ++ [.ref tp])) hz3)
  have no : partsK d p.1.2.1 = [] := by
    apply Classical.byContradiction
    intro h
    obtain ⟨e, he, e1⟩ := List.mem_map.mp (B.all _ h)
    exact hk e he e1
  have nk : p.1.2.1 ∉ es.map (·.1) := fun h => by
    obtain ⟨e, he, e1⟩ := List.mem_map.mp h
    exact hk e he e1
  have na : z ∉ es.map (·.2) := fun h => by
    obtain ⟨e, he, e1⟩ := List.mem_map.mp h
    obtain ⟨_, _, b, zs, e2, a3, _⟩ := B.ent e he
    cases e2
    rw [e1, nz] at a3
    cases a3
  refine ⟨same_upd (fun b o e => ?_) nz0, ?_, ?_, ?_, fun e' he' => ?_, fun k hk' => ?_, ?_⟩
  · have h1 : upd (upd H z (.lst [])) fo (.dK (es.map entK ++ [(.inr p.1.2.1, .ref z)])) b = some o := same_upd (B.same.trans (same_new nz)) hfo _ _ e
    rw [upd_ne (ne_of_none h1 nt)]
    exact h1
  · rw [upd_ne nzf.symm, upd_ne ntf, upd_same, List.map_append]
    rfl
  · rw [List.map_append]
    exact nd_snoc B.keys nk
  · rw [List.map_append]
    exact nd_snoc B.adr na
  · rcases List.mem_append.mp he' with he | he
    · obtain ⟨a1, a2, b, zs, e1, a3, a4⟩ := B.ent e' he
      cases e1
      rw [partsK_snoc_ne d (fun z => hk e' he z.symm)]
      refine ⟨a1, a2, e'.2, zs, rfl, ?_, pmap a4 fun _ _ q => q.mono t3⟩
      have n1 : e'.2 ≠ z := fun h => na (List.mem_map.mpr ⟨e', he, h⟩)
      have n2 : e'.2 ≠ fo := fun h => by have := B.at_; rw [← h, a3] at this; cases this
      have h2 : (upd (upd H z (.lst [])) fo (.dK (es.map entK ++ [(.inr p.1.2.1, .ref z)]))) e'.2 = some (.lst zs) := by rw [upd_ne n2, upd_ne n1]; exact a3
      rw [upd_ne n1, upd_ne (ne_of_none h2 nt)]
      exact h2
    · rw [List.mem_singleton] at he
      subst he
      show _ ∧ partsK (d ++ [p]) p.1.2.1 ≠ [] ∧ PtsV _ (.ref z) (partsK (d ++ [p]) p.1.2.1)
      rw [partsK_snoc_same, no]
      refine ⟨nz0, by simp, z, _, rfl, upd_same, .cons ⟨tp, rfl, ?_⟩ .nil⟩
      rw [upd_ne ntz.symm]
      exact upd_same
  · rw [List.map_append]
    by_cases c : p.1.2.1 = k
    · exact List.mem_append_right _ (by rw [← c]; exact List.mem_cons_self ..)
    · rw [partsK_snoc_ne d c] at hk'
      exact List.mem_append_left _ (B.all k hk')
  · rw [List.length_append, List.length_append]
    exact Nat.add_le_add_right B.few 1
def spByKey : Sp := fun vs H Q _ => ∃ v l, vs = [v] ∧ BagV H v l ∧ l.length ≤ 1000 ∧ ∀ fo H' es, H fo = none → ByK H H' fo l es → Q (.ref fo) H'
theorem sc_values_by_key : FnScope ["bag", "found", "time", "key", "value", "count"] ["bag"] (defScope (topS 19)) := ⟨rfl, rfl, rfl, by decide +kernel, rfl, by decide +kernel, by decide +kernel⟩
theorem ok_values_by_key (T : Txt K mg) : FnOk P w K mg base CX0 1 T.d_values_by_key.f T.d_values_by_key.fd ["bag"] spByKey := by
  refine T.d_values_by_key.F.ok sc_values_by_key (fun vs H Q E h => ?_) (fun cdv A outer s H vs Q E hr h => ?_)
  · obtain ⟨_, _, rfl, _⟩ := h
    rfl
  · obtain ⟨v, l, rfl, ⟨a, xs, rfl, ha, hp⟩, hl, q⟩ := h
    refine ⟨_, (pss_cons (ps_set (i := 1) sc_values_by_key.nd rfl (Or.inl rfl) pe_dnewK)
      (pss_cons (ps_for PassesOwn.never rfl (pi_list (pv 0)) (pgTup K 2 rfl (pgs_cons (pgTup K 3 rfl (pgs_cons (pg_name (i := 2) sc_values_by_key.nd rfl (Or.inl rfl)) (pgs_cons (pg_name (i := 3) sc_values_by_key.nd rfl (Or.inl rfl)) (pgs_cons (pg_name (i := 4) sc_values_by_key.nd rfl (Or.inl rfl)) pgs_nil)))) (pgs_cons (pg_name (i := 5) sc_values_by_key.nd rfl (Or.inl rfl)) pgs_nil)))
        (pss_one (ps_expr (pe_bm PySem.F.plainAttrs_list PySem.F.slot_list_append PySem.F.type_list_append mt_append (pe_dsetd (pv 1) (pv 3) (pe_lst pa_nil) ⟨rfl, rfl, rfl, rfl⟩) (pa_cons (pe_tup (pa_cons (pv 2) (pa_cons (pv 4) (pa_cons (pv 5) pa_nil)))) pa_nil)))))
      (pss_one (ps_ret (pv 1))))), ?_⟩
    refine fun fo nf => ?_
    have s0 : Same H (upd H fo (.dK [])) := same_new nf
    refine ⟨_, rfl, a, rfl, ⟨_, SqL.of (s0 _ _ ha)⟩, ?_⟩
    refine for_pl (l := l) (F := PairV) (xs := xs) (fun d σ H' => ∃ x2 x3 x4 x5 es, σ = [some (.ref a), some (.ref fo), x2, x3, x4, x5] ∧ ByK H H' fo d es) ⟨_, _, _, _, [], rfl, s0, upd_same, List.nodup_nil, List.nodup_nil, fun e he => by simp at he, fun k hk => absurd rfl hk, Nat.le_refl _⟩
      (fun d σ H' n => ?_) (fun d y r x σ H' el fx n => ?_) fun σ H' n => ?_
    · obtain ⟨_, _, _, _, es, _, B⟩ := n
      exact ⟨SqL.of (B.same _ _ ha), pmap hp fun _ _ z => z.mono (tup_of B.same)⟩
    · obtain ⟨x2, x3, x4, x5, es, rfl, B⟩ := n
      obtain ⟨b, c, rfl, hb, hc⟩ := fx
      have hd : d.length < l.length := by rw [el, List.length_append, List.length_cons]; omega
      refine ⟨b, _, rfl, SqT.of hb, rfl, _, _, rfl, ⟨c, _, rfl, SqT.of hc, rfl, _, _, rfl, _, _, rfl, _, _, rfl, rfl, _, _, rfl, rfl, ?_⟩⟩
      have len : es.length < sizeLine := small1000 (Nat.le_trans B.few (by omega))
      refine ⟨_, rfl, fo, rfl, .inl ⟨_, .inl B.at_⟩, _, rfl, (by show 0 ≤ sizeLine; decide), fun z nz => ?_⟩
      have nzf : fo ≠ z := ne_of_none B.at_ nz
      refine ⟨es.map entK, .inr y.1.2.1, by rw [upd_ne nzf]; exact B.at_, rfl, by rw [List.length_map]; exact len, fun u hu => ?_, fun hu => ?_⟩
      · obtain ⟨e, he, hk, rfl⟩ := valV_ent hu
        obtain ⟨a1, a2, b', ys, e1, a3, a4⟩ := B.ent e he
        cases e1
        have a3' : upd H' z (.lst []) e.2 = some (.lst ys) := same_new nz _ _ a3
        refine ⟨.inl ⟨rfl, _, SqL.of a3'⟩, ?_⟩
        refine ⟨_, rfl, _, rfl, _, rfl, (by show 3 ≤ sizeLine; decide), fun tp nt => ?_⟩
        have ly : ys.length < sizeLine := by
          rw [Paired.length a4]
          exact small1000 (Nat.le_trans (partsK_len _ _) (by omega))
        refine ⟨e.2, ys, _, rfl, rfl, same_new nt _ _ a3', ly, ?_⟩
        exact ⟨_, _, _, _, es, rfl, B.old nf nz he hk nt a3 a4⟩
      · rw [putK_new _ hu]
        have hz2 : upd (upd H' z (.lst [])) fo (.dK (es.map entK ++ [(.inr y.1.2.1, .ref z)])) z = some (.lst []) := by rw [upd_ne nzf.symm]; exact upd_same
        refine ⟨.inl ⟨rfl, _, SqL.of hz2⟩, ?_⟩
        refine ⟨_, rfl, _, rfl, _, rfl, (by show 3 ≤ sizeLine; decide), fun tp nt => ?_⟩
        refine ⟨z, [], _, rfl, rfl, same_new nt _ _ hz2, (by decide), ?_⟩
        exact ⟨_, _, _, _, _, rfl, B.new nf nz (valV_ent_none hu) nt⟩
    · obtain ⟨x2, x3, x4, x5, es, rfl, B⟩ := n
      exact ⟨_, rfl, q fo H' es nf B⟩
end
end L2.K21
namespace L2.K21
open PySem PySem.Spec PyProof.Rows
open TdS (RowA ltR SortedOf)
section
variable {P : Program} {w : World} {K : PySem.W.Frag} {mg : PySem.Str → Option Value} {base : Heap}
/-! ### changes_of, _law_added -/
abbrev kR (r : Row) : List Key := [.inl r.1, .inr r.2.1, .inl r.2.2]
abbrev ltP (p q : Row) : Prop := ltR p q = true
abbrev Can (l : List (Row × Int)) : Prop := Td.Canon ltP l
theorem ltP_asym : ∀ a b : Row, ltP a b → ¬ ltP b a := fun a b h k => by
  have k' : ltR b a = true := k
  rw [TdS.ltR_asym h] at k'
  cases k'
theorem ltP_irr : ∀ a : Row, ¬ ltP a a := fun a h => ltP_asym _ _ h h
theorem kR_inj {r r' : Row} (h : kR r = kR r') : r = r' := by
  have h1 := List.cons.inj h
  have h2 := List.cons.inj h1.2
  have h3 := List.cons.inj h2.2
  exact Prod.ext (Sum.inl.inj h1.1) (Prod.ext (Sum.inr.inj h2.1) (Sum.inl.inj h3.1))
theorem kR_V (r : Row) : (kR r).map kV = [.int r.1, .str r.2.1, .int r.2.2] := rfl
/-- the dict of counts behind the pairs d -/
structure Tal (kvs : List (List Key × V)) (d : List (Row × Int)) : Prop where
  get : ∀ r : Row, (valV kvs (kR r)).getD (.int 0) = .int (Td.cnt d r)
  keys : ∀ p ∈ kvs, ∃ r : Row, p.1 = kR r
  nd : (kvs.map (·.1)).Nodup
  few : kvs.length ≤ d.length
theorem nodup_put {kvs : List (List Key × V)} {k : List Key} (v : V) (h : (kvs.map (·.1)).Nodup) : ((putK kvs k v).map (·.1)).Nodup := by
  cases e : valV kvs k with
  | none => exact nd_putK v h e
  | some u =>
    unfold putK
    rw [valV_any, e]
    have : (kvs.map fun kv => if kv.1 = k then (kv.1, v) else kv).map (·.1) = kvs.map (·.1) := by
      rw [List.map_map]
      refine List.map_congr_left fun p _ => ?_
      show (if p.1 = k then (p.1, v) else p).1 = p.1
      split <;> rfl
    simp only [Option.isSome_some, if_true]
    rw [this]
    exact h
theorem keys_put {kvs : List (List Key × V)} {r : Row} (v : V) (h : ∀ p ∈ kvs, ∃ r : Row, p.1 = kR r) : ∀ p ∈ putK kvs (kR r) v, ∃ r : Row, p.1 = kR r := fun p hp => by
  unfold putK at hp
  split at hp
  · obtain ⟨q, hq, e⟩ := List.mem_map.mp hp
    subst e
    obtain ⟨r', hr⟩ := h q hq
    refine ⟨r', ?_⟩
    split <;> exact hr
  · rcases List.mem_append.mp hp with hp | hp
    · exact h p hp
    · rw [List.mem_singleton.mp hp]
      exact ⟨r, rfl⟩
theorem Tal.put {kvs : List (List Key × V)} {d : List (Row × Int)} (T : Tal kvs d) (p : Row × Int) : Tal (putK kvs (kR p.1) (.int (Td.cnt d p.1 + p.2))) (d ++ [p]) := by
  refine ⟨fun r => ?_, keys_put _ T.keys, nodup_put _ T.nd, ?_⟩
  · rw [valV_put, Td.cnt_append, Td.cnt_cons, Td.cnt_nil]
    by_cases e : p.1 = r
    · rw [if_pos (by rw [e]), if_pos e, e]
      show V.int _ = V.int _
      rw [Int.add_zero]
    · rw [if_neg (fun z => e (kR_inj z).symm), if_neg e, T.get r]
      show V.int _ = V.int _
      rw [Int.add_zero, Int.add_zero]
  · rw [List.length_append]
    exact Nat.le_trans (length_putK ..) (Nat.add_le_add_right T.few 1)
theorem Tal.nil : Tal [] [] := ⟨fun r => rfl, fun p hp => by simp at hp, List.nodup_nil, Nat.le_refl _⟩
/-- the rows in order, those that are left -/
def fRow (c : Row → Int) (r : Row) : Option (Row × Int) := if c r ≠ 0 then some (r, c r) else none
theorem canon_rows {c : Row → Int} : ∀ {R : List Row}, R.Pairwise ltP → Can (R.filterMap (fRow c)) ∧ ∀ r, Td.cnt (R.filterMap (fRow c)) r = if r ∈ R then c r else 0
  | [], _ => ⟨Td.Canon.nil, fun r => by simp [Td.cnt_nil]⟩
  | a :: R, h => by
    obtain ⟨h1, h2⟩ := List.pairwise_cons.mp h
    obtain ⟨i1, i2⟩ := canon_rows (c := c) h2
    have na : a ∉ R := fun z => ltP_irr _ (h1 a z)
    by_cases e : c a = 0
    · have f : fRow c a = none := by unfold fRow; rw [if_neg (fun z => z e)]
      rw [List.filterMap_cons, f]
      refine ⟨i1, fun r => ?_⟩
      rw [i2 r]
      by_cases m : r = a
      · subst m
        rw [if_neg na, if_pos (List.mem_cons_self ..), e]
      · by_cases m2 : r ∈ R
        · rw [if_pos m2, if_pos (List.mem_cons_of_mem _ m2)]
        · rw [if_neg m2, if_neg (fun z => (List.mem_cons.mp z).elim m m2)]
    · have f : fRow c a = some (a, c a) := by unfold fRow; rw [if_pos e]
      rw [List.filterMap_cons, f]
      refine ⟨⟨List.pairwise_cons.mpr ⟨fun p hp => ?_, i1.srt⟩, fun p hp => ?_⟩, fun r => ?_⟩
      · obtain ⟨r, hr, e2⟩ := List.mem_filterMap.mp hp
        unfold fRow at e2
        split at e2
        · cases e2
          exact h1 r hr
        · cases e2
      · rcases List.mem_cons.mp hp with rfl | hp
        · exact e
        · exact i1.nz p hp
      · show Td.cnt ((a, c a) :: R.filterMap (fRow c)) r = _
        rw [Td.cnt_cons, i2 r]
        by_cases m : a = r
        · subst m
          rw [if_pos rfl, if_neg na, if_pos (List.mem_cons_self ..)]
          exact Int.add_zero _
        · rw [if_neg m]
          by_cases m2 : r ∈ R
          · rw [if_pos m2, if_pos (List.mem_cons_of_mem _ m2)]
            exact Int.zero_add _
          · rw [if_neg m2, if_neg (fun z => (List.mem_cons.mp z).elim (fun z => m z.symm) m2)]
            rfl
theorem strict_rows {k : V → Row} {ys : List V} (h : SrtO.Srtd (TdS.ltV k) ys) (nd : (ys.map k).Nodup) : (ys.map k).Pairwise ltP := by
  rw [List.pairwise_map]
  have nd' : ys.Pairwise fun x y => k x ≠ k y := List.pairwise_map.mp nd
  refine List.Pairwise.imp₂ (fun x y a b => ?_) h nd'
  cases c : ltR (k x) (k y) with
  | true => exact c
  | false => exact absurd (TdS.ltR_tri c a) b
/-- the keys' rows -/
theorem rows_of {H : Hp} {k : V → Row} : ∀ {kvs : List (List Key × V)} {bs : List Addr}, IsKeys H kvs bs → (∀ p ∈ kvs, ∃ r : Row, p.1 = kR r) → (∀ b ∈ bs, RowA H b (k (.ref b))) → kvs.map (·.1) = bs.map fun b => kR (k (.ref b))
  | _, _, .nil, _, _ => rfl
  | _, _, .cons (a := p) (b := b) h t, hk, hr => by
    have ih := rows_of t (fun p hp => hk p (List.mem_cons_of_mem _ hp)) (fun b hb => hr b (List.mem_cons_of_mem _ hb))
    obtain ⟨r, e⟩ := hk p (List.mem_cons_self ..)
    have h1 := hr b (List.mem_cons_self ..)
    have h2 : H b = some (.tup ((kR r).map kV)) := by rw [← e]; exact h
    have h3 : (kR r).map kV = (kR (k (.ref b))).map kV := HO.tup.inj (Option.some.inj (h2.symm.trans h1))
    rw [List.map_cons, List.map_cons, ih, e, kVs_inj h3]
theorem valV_mem {kvs : List (List Key × V)} {k : List Key} (h : k ∈ kvs.map (·.1)) : ∃ v, valV kvs k = some v := by
  obtain ⟨p, hp, e⟩ := List.mem_map.mp h
  have q : (kvs.any fun kv => decide (kv.1 = k)) = true := List.any_eq_true.mpr ⟨p, hp, decide_eq_true e⟩
  rw [valV_any] at q
  exact Option.isSome_iff_exists.mp q
/-- from the sorted keys to the changes -/
theorem sorted_done {H : Hp} {k : V → Row} {kvs : List (List Key × V)} {d : List (Row × Int)} {bs : List Addr} {ys : List V} (T : Tal kvs d) (ik : IsKeys H kvs bs) (hr : ∀ b ∈ bs, RowA H b (k (.ref b))) (so : SortedOf k (bs.map V.ref) ys) :
    (∀ y ∈ ys, ∃ b, y = .ref b ∧ RowA H b (k y) ∧ valV kvs (kR (k y)) = some (.int (Td.cnt d (k y)))) ∧ Can ((ys.map k).filterMap (fRow (Td.cnt d))) ∧ (∀ r, Td.cnt ((ys.map k).filterMap (fRow (Td.cnt d))) r = Td.cnt d r) ∧ ys.length ≤ d.length := by
  have ek := rows_of ik T.keys hr
  have ek2 : kvs.map (·.1) = (bs.map V.ref).map fun y => kR (k y) := by rw [List.map_map]; exact ek
  have pm : ((ys.map k).map kR).Perm (kvs.map (·.1)) := by
    rw [ek2, List.map_map]
    exact so.2.map fun y => kR (k y)
  have nd : (ys.map k).Nodup := by
    have h1 := pm.nodup_iff.mpr T.nd
    rw [List.nodup_iff_pairwise_ne, List.pairwise_map] at h1
    rw [List.nodup_iff_pairwise_ne]
    exact h1.imp fun h e => h (by rw [e])
  have st := strict_rows so.1 nd
  obtain ⟨c1, c2⟩ := canon_rows (c := Td.cnt d) st
  have mem : ∀ r : Row, r ∈ ys.map k ↔ kR r ∈ kvs.map (·.1) := fun r => by
    rw [← pm.mem_iff]
    constructor
    · exact fun h => List.mem_map.mpr ⟨r, h, rfl⟩
    · intro h
      obtain ⟨r', h1, h2⟩ := List.mem_map.mp h
      rw [← kR_inj h2]
      exact h1
  refine ⟨fun y hy => ?_, c1, fun r => ?_, ?_⟩
  · obtain ⟨b, hb, rfl⟩ := List.mem_map.mp (so.2.mem_iff.mp hy)
    obtain ⟨v, hv⟩ := valV_mem ((mem _).mp (List.mem_map.mpr ⟨_, hy, rfl⟩))
    have g := T.get (k (.ref b))
    rw [hv] at g
    exact ⟨b, rfl, hr b hb, by rw [hv, show v = V.int (Td.cnt d (k (.ref b))) from g]⟩
  · rw [c2 r]
    by_cases m : r ∈ ys.map k
    · rw [if_pos m]
    · rw [if_neg m]
      have g := T.get r
      have : valV kvs (kR r) = none := by
        cases e : valV kvs (kR r) with
        | none => rfl
        | some v => exact absurd ((mem r).mpr (valV_in e)) m
      rw [this] at g
      exact V.int.inj g
  · have h1 := so.2.length_eq
    have h2 : kvs.length = bs.length := by
      have := congrArg List.length ek
      rwa [List.length_map, List.length_map] at this
    rw [h1, List.length_map, ← h2]
    exact T.few
def spChanges : Sp := fun vs H Q _ => ∃ v ps, vs = [v] ∧ BagV H v ps ∧ ps.length ≤ 1000 ∧ ∀ u H' l, Same H H' → BagV H' u l → Can l → (∀ r, Td.cnt l r = Td.cnt ps r) → l.length ≤ ps.length → Q u H'
def RwV (H : Hp) (v : V) (r : Row) : Prop := ∃ b, v = .ref b ∧ RowA H b r
theorem RwV.mono {H H' : Hp} {v : V} {r : Row} (t : Tup H H') (h : RwV H v r) : RwV H' v r := by
  obtain ⟨b, e, h1⟩ := h
  exact ⟨b, e, RowA.mono t h1⟩
theorem rws_of {H : Hp} {k : V → Row} : ∀ {ys : List V}, (∀ y ∈ ys, ∃ b, y = .ref b ∧ RowA H b (k y)) → Paired (RwV H) ys (ys.map k)
  | [], _ => .nil
  | y :: ys, h => .cons (h y (List.mem_cons_self ..)) (rws_of fun y hy => h y (List.mem_cons_of_mem _ hy))
theorem sc_changes_of : FnScope ["pairs", "counts", "row", "count"] ["pairs"] (defScope (topS 1)) := ⟨rfl, rfl, rfl, by decide +kernel, rfl, by decide +kernel, by decide +kernel⟩
theorem ok_changes_of (T : Txt K mg) : FnOk P w K mg base CX0 1 T.d_changes_of.f T.d_changes_of.fd ["pairs"] spChanges := by
  refine T.d_changes_of.F.ok sc_changes_of (fun vs H Q E h => ?_) (fun cdv A outer s H vs Q E hr h => ?_)
  · obtain ⟨_, _, rfl, _⟩ := h
    rfl
  · obtain ⟨v, ps, rfl, ⟨a, xs, rfl, ha, hp⟩, hl, q⟩ := h
    refine ⟨_, (pss_cons (ps_set (i := 1) sc_changes_of.nd rfl (Or.inr rfl) pe_dnewT)
      (pss_cons (ps_for PassesOwn.never rfl (pi_list (pv 0)) (pgTup K 2 rfl (pgs_cons (pg_name (i := 2) sc_changes_of.nd rfl (Or.inl rfl)) (pgs_cons (pg_name (i := 3) sc_changes_of.nd rfl (Or.inl rfl)) pgs_nil)))
        (pss_one (ps_dput (hu_of hr) (pv 1) (pv 2) (pe_op op_add (pe_dget2 (hu_of hr) (pv 1) (pv 2) pe_int ⟨rfl, rfl, rfl, rfl⟩) (pv 3)) rfl)))
      (pss_one (ps_ret (pe_lc (own := [("row", 2)]) (by rfl) sc_changes_of.nd (pi_list (pe_callB (TdS.cr_sortedRD rfl) (by rfl) T.z_sorted (by decide +kernel) (pa_cons (pv 1) pa_nil))) (blkOk_by (own := [("row", 2)]) (N := ["pairs", "counts", "row", "count"]) (sc := defScope (topS 1)) (by decide +kernel)) (fun _ _ _ _ _ => (pg_name (i := 2) sc_changes_of.nd rfl (Or.inl rfl))) (fun _ _ _ _ _ => pts_one (pt_cmpR op_ne (pe_dget (hu_of hr) (pv 1) (pv 2) (fun _ _ => rfl)) pe_int (nomark _))) (fun _ _ _ _ _ => (pe_tup (pa_cons (pv 2) (pa_cons (pe_dget (hu_of hr) (pv 1) (pv 2) (fun _ _ => rfl)) pa_nil))))))))), ?_⟩
    refine fun co nc => ?_
    have s0 : Same H (upd H co (.dT [])) := same_new nc
    refine ⟨_, rfl, a, rfl, ⟨_, SqL.of (s0 _ _ ha)⟩, ?_⟩
    refine for_pl (l := ps) (F := PairV) (xs := xs) (fun d σ H' => ∃ x2 x3 kvs, σ = [some (.ref a), some (.ref co), x2, x3] ∧ Same H H' ∧ H' co = some (.dT kvs) ∧ Tal kvs d) ⟨_, _, [], rfl, s0, upd_same, Tal.nil⟩
      (fun d σ H' n => ?_) (fun d y r x σ H' el fx n => ?_) fun σ H' n => ?_
    · obtain ⟨_, _, _, _, sm, _⟩ := n
      exact ⟨SqL.of (sm _ _ ha), pmap hp fun _ _ z => z.mono (tup_of sm)⟩
    · obtain ⟨x2, x3, kvs, rfl, sm, hc, tl⟩ := n
      obtain ⟨b, c, rfl, hb, hrw⟩ := fx
      have hd : d.length < ps.length := by rw [el, List.length_append, List.length_cons]; omega
      refine ⟨b, _, rfl, SqT.of hb, rfl, _, _, rfl, _, _, rfl, rfl, ?_⟩
      refine ⟨_, rfl, co, rfl, .inr ⟨_, .inl hc⟩, _, rfl, _, DGet.t (k := kR y.1) hc hrw, ?_⟩
      rw [tl.get y.1]
      refine ⟨_, rfl, _, _, rfl, rfl, _, rfl, _, rfl, _, _, rfl, DPut.t (k := kR y.1) hc hrw (small1000 (Nat.le_trans tl.few (by omega))), ?_⟩
      exact ⟨_, _, _, rfl, same_upd sm nc, upd_same, tl.put y⟩
    · obtain ⟨x2, x3, kvs, rfl, sm, hc, tl⟩ := n
      refine ⟨_, rfl, co, kvs, rfl, .inl hc, tl.keys, fun bs k ys p ik hrow so np => ?_⟩
      obtain ⟨g1, g2, g3, g4⟩ := sorted_done tl ik hrow so
      have s1 := sm.trans (same_new (o := .lst ys) np)
      refine ⟨p, rfl, ⟨_, SqL.of upd_same⟩, fun D nD => ?_⟩
      refine lc_fm (l := ys.map k) (F := RwV) (G := PairV) (fRow (Td.cnt ps)) nD (SqL.of upd_same) (rws_of fun y hy => ?_) (fun _ _ _ _ => RwV.mono) (fun _ _ _ _ => PairV.mono) (small1000 (by rw [List.length_map]; omega)) (fun r x H2 R R' hm fx s2 h1 h2 => ?_) fun H2 zs s2 hz pz => ?_
      · obtain ⟨b, e, h1, _⟩ := g1 y hy
        exact ⟨b, e, RowA.mono (tup_new np) h1⟩
      · obtain ⟨b, rfl, hb⟩ := fx
        obtain ⟨y, hy, rfl⟩ := List.mem_map.mp hm
        obtain ⟨_, _, _, hv⟩ := g1 y hy
        have hc2 : H2 co = some (.dT kvs) := s2 _ _ (same_new np _ _ hc)
        have gt := DGet.t (k := kR (k y)) hc2 hb
        rw [hv] at gt
        refine ⟨rfl, _, rfl, _, rfl, _, _, rfl, gt, rfl, _, rfl, ite2 (fun c => ?_) fun c => ?_⟩
        · have c' : Td.cnt ps (k y) ≠ 0 := fun z => by rw [z] at c; cases c
          refine ⟨_, rfl, _, rfl, _, rfl, _, _, rfl, gt, (by show 2 ≤ sizeLine; decide), fun t nt => ?_⟩
          exact h1 _ (k y, Td.cnt ps (k y)) _ (if_pos c') (same_new nt) ⟨t, b, rfl, upd_same, RowA.mono (tup_new nt) hb⟩
        · have c' : Td.cnt ps (k y) = 0 := by
            cases hd : decide (V.int (Td.cnt ps (k y)) = V.int 0) with
            | true => exact V.int.inj (of_decide_eq_true hd)
            | false => exact absurd (show (!decide (V.int (Td.cnt ps (k y)) = V.int 0)) = true by rw [hd]; rfl) c
          exact h2 _ (if_neg (fun z => z c')) (Same.refl _)
      · refine q _ _ _ (s1.trans s2) ⟨D, zs, rfl, hz, pz⟩ g2 g3 ?_
        exact Nat.le_trans (List.length_filterMap_le ..) (by rw [List.length_map]; exact g4)
theorem sc__law_added : FnScope ["_law_pairs", "_law_counts", "_law_row", "_law_count"] ["_law_pairs"] (defScope (topS 41)) := ⟨rfl, rfl, rfl, by decide +kernel, rfl, by decide +kernel, by decide +kernel⟩
theorem ok__law_added (T : Txt K mg) : FnOk P w K mg base CX0 1 T.d__law_added.f T.d__law_added.fd ["_law_pairs"] spChanges := by
  refine T.d__law_added.F.ok sc__law_added (fun vs H Q E h => ?_) (fun cdv A outer s H vs Q E hr h => ?_)
  · obtain ⟨_, _, rfl, _⟩ := h
    rfl
  · obtain ⟨v, ps, rfl, ⟨a, xs, rfl, ha, hp⟩, hl, q⟩ := h
    refine ⟨_, (pss_cons (ps_set (i := 1) sc__law_added.nd rfl (Or.inr rfl) pe_dnewT)
      (pss_cons (ps_for PassesOwn.never rfl (pi_list (pv 0)) (pgTup K 2 rfl (pgs_cons (pg_name (i := 2) sc__law_added.nd rfl (Or.inl rfl)) (pgs_cons (pg_name (i := 3) sc__law_added.nd rfl (Or.inl rfl)) pgs_nil)))
        (pss_one (ps_dput (hu_of hr) (pv 1) (pv 2) (pe_op op_add (pe_dget2 (hu_of hr) (pv 1) (pv 2) pe_int ⟨rfl, rfl, rfl, rfl⟩) (pv 3)) rfl)))
      (pss_one (ps_ret (pe_lc (own := [("_law_row", 2)]) (by rfl) sc__law_added.nd (pi_list (pe_callB TdS.cr_sortedR (by rfl) T.z_sorted (by decide +kernel) (pa_cons (pe_callTy (call_list_dT rfl) (by rfl) T.z_list (by decide +kernel) (pa_cons (pv 1) pa_nil)) pa_nil))) (blkOk_by (own := [("_law_row", 2)]) (N := ["_law_pairs", "_law_counts", "_law_row", "_law_count"]) (sc := defScope (topS 41)) (by decide +kernel)) (fun _ _ _ _ _ => (pg_name (i := 2) sc__law_added.nd rfl (Or.inl rfl))) (fun _ _ _ _ _ => pts_one (pt_cmpR op_ne (pe_dget (hu_of hr) (pv 1) (pv 2) (fun _ _ => rfl)) pe_int (nomark _))) (fun _ _ _ _ _ => (pe_tup (pa_cons (pv 2) (pa_cons (pe_dget (hu_of hr) (pv 1) (pv 2) (fun _ _ => rfl)) pa_nil))))))))), ?_⟩
    refine fun co nc => ?_
    have s0 : Same H (upd H co (.dT [])) := same_new nc
    refine ⟨_, rfl, a, rfl, ⟨_, SqL.of (s0 _ _ ha)⟩, ?_⟩
    refine for_pl (l := ps) (F := PairV) (xs := xs) (fun d σ H' => ∃ x2 x3 kvs, σ = [some (.ref a), some (.ref co), x2, x3] ∧ Same H H' ∧ H' co = some (.dT kvs) ∧ Tal kvs d) ⟨_, _, [], rfl, s0, upd_same, Tal.nil⟩
      (fun d σ H' n => ?_) (fun d y r x σ H' el fx n => ?_) fun σ H' n => ?_
    · obtain ⟨_, _, _, _, sm, _⟩ := n
      exact ⟨SqL.of (sm _ _ ha), pmap hp fun _ _ z => z.mono (tup_of sm)⟩
    · obtain ⟨x2, x3, kvs, rfl, sm, hc, tl⟩ := n
      obtain ⟨b, c, rfl, hb, hrw⟩ := fx
      have hd : d.length < ps.length := by rw [el, List.length_append, List.length_cons]; omega
      refine ⟨b, _, rfl, SqT.of hb, rfl, _, _, rfl, _, _, rfl, rfl, ?_⟩
      refine ⟨_, rfl, co, rfl, .inr ⟨_, .inl hc⟩, _, rfl, _, DGet.t (k := kR y.1) hc hrw, ?_⟩
      rw [tl.get y.1]
      refine ⟨_, rfl, _, _, rfl, rfl, _, rfl, _, rfl, _, _, rfl, DPut.t (k := kR y.1) hc hrw (small1000 (Nat.le_trans tl.few (by omega))), ?_⟩
      exact ⟨_, _, _, rfl, same_upd sm nc, upd_same, tl.put y⟩
    · obtain ⟨x2, x3, kvs, rfl, sm, hc, tl⟩ := n
      refine ⟨_, rfl, co, kvs, rfl, .inl hc, fun p0 bs np0 ik => ?_⟩
      have s1 := sm.trans (same_new (o := .lst (bs.map V.ref)) np0)
      have ik1 : IsKeys (upd H' p0 (.lst (bs.map V.ref))) kvs bs := pmap ik fun _ _ z => same_new np0 _ _ z
      have hrow : ∀ b ∈ bs, RowA (upd H' p0 (.lst (bs.map V.ref))) b (TdS.rowAt (upd H' p0 (.lst (bs.map V.ref))) (.ref b)) := TdS.keys_rows ik1 tl.keys
      refine ⟨p0, bs.map V.ref, TdS.rowAt (upd H' p0 (.lst (bs.map V.ref))), rfl, SqL.of upd_same, fun x hx => ?_, fun ys p so np => ?_⟩
      · obtain ⟨b, hb, rfl⟩ := List.mem_map.mp hx
        exact ⟨b, rfl, hrow b hb⟩
      generalize hk : TdS.rowAt (upd H' p0 (.lst (bs.map V.ref))) = k at hrow so
      obtain ⟨g1, g2, g3, g4⟩ := sorted_done tl ik1 hrow so
      have s3 := s1.trans (same_new (o := .lst ys) np)
      refine ⟨p, rfl, ⟨_, SqL.of upd_same⟩, fun D nD => ?_⟩
      refine lc_fm (l := ys.map k) (F := RwV) (G := PairV) (fRow (Td.cnt ps)) nD (SqL.of upd_same) (rws_of fun y hy => ?_) (fun _ _ _ _ => RwV.mono) (fun _ _ _ _ => PairV.mono) (small1000 (by rw [List.length_map]; omega)) (fun r x H2 R R' hm fx s2 h1 h2 => ?_) fun H2 zs s2 hz pz => ?_
      · obtain ⟨b, e, h1, _⟩ := g1 y hy
        exact ⟨b, e, RowA.mono (tup_new np) h1⟩
      · obtain ⟨b, rfl, hb⟩ := fx
        obtain ⟨y, hy, rfl⟩ := List.mem_map.mp hm
        obtain ⟨_, _, _, hv⟩ := g1 y hy
        have hc2 : H2 co = some (.dT kvs) := s2 _ _ (same_new np _ _ (same_new np0 _ _ hc))
        have gt := DGet.t (k := kR (k y)) hc2 hb
        rw [hv] at gt
        refine ⟨rfl, _, rfl, _, rfl, _, _, rfl, gt, rfl, _, rfl, ite2 (fun c => ?_) fun c => ?_⟩
        · have c' : Td.cnt ps (k y) ≠ 0 := fun z => by rw [z] at c; cases c
          refine ⟨_, rfl, _, rfl, _, rfl, _, _, rfl, gt, (by show 2 ≤ sizeLine; decide), fun t nt => ?_⟩
          exact h1 _ (k y, Td.cnt ps (k y)) _ (if_pos c') (same_new nt) ⟨t, b, rfl, upd_same, RowA.mono (tup_new nt) hb⟩
        · have c' : Td.cnt ps (k y) = 0 := by
            cases hd : decide (V.int (Td.cnt ps (k y)) = V.int 0) with
            | true => exact V.int.inj (of_decide_eq_true hd)
            | false => exact absurd (show (!decide (V.int (Td.cnt ps (k y)) = V.int 0)) = true by rw [hd]; rfl) c
          exact h2 _ (if_neg (fun z => z c')) (Same.refl _)
      · refine q _ _ _ (s3.trans s2) ⟨D, zs, rfl, hz, pz⟩ g2 g3 ?_
        exact Nat.le_trans (List.length_filterMap_le ..) (by rw [List.length_map]; exact g4)
end
end L2.K21
namespace L2.K21
open PySem PySem.Spec PyProof.Rows
open TdS (RowA ltR SortedOf)
section
variable {P : Program} {w : World} {K : PySem.W.Frag} {mg : PySem.Str → Option Value} {base : Heap}
theorem for_items {d : Addr} {o : Obj} {kvs : List (Key × V)} {g : TG} {tb : TS} {D : Ends} {σ : St} {H : Hp} (Pv : Nat → St → Hp → Prop) (h0 : Pv 0 σ H) (hl : ∀ i σ H, Pv i σ H → H d = some (.frz o (.dK kvs)))
    (hs : ∀ i k v T σ H, kvs[i]? = some (k, v) → H T = none → Pv i σ H → g (.ref T) σ (upd H T (.tup [kV k, v])) fun σ2 H2 => tb { D with nx := Pv (i + 1), ct := Pv (i + 1), bk := D.nx } σ2 H2) (hd : ∀ σ H, Pv kvs.length σ H → D.nx σ H) :
    ∃ W : Nat → Nat → St → Hp → Prop, (∃ m, W 0 m σ H) ∧ ∀ i m σ H, W i m σ H →
      ((Iti d o kvs).stop i H ∧ D.nx σ H) ∨ ((Iti d o kvs).go i H ∧ ∃ N : St → Hp → Prop, (∀ σ' H', N σ' H' → ∃ m', m' < m ∧ W (i + 1) m' σ' H') ∧ ∀ x H', (Iti d o kvs).yld i H x H' → g x σ H' fun σ2 H2 => tb { D with nx := N, ct := N, bk := D.nx } σ2 H2) := by
  refine ⟨fun i m σ H => m = kvs.length - i ∧ i ≤ kvs.length ∧ Pv i σ H, ⟨kvs.length, rfl, Nat.zero_le _, h0⟩, fun i m σ H h => ?_⟩
  obtain ⟨rfl, hi, p⟩ := h
  by_cases c : i < kvs.length
  · refine .inr ⟨⟨hl _ _ _ p, c⟩, Pv (i + 1), fun σ' H' p' => ⟨kvs.length - (i + 1), by omega, rfl, c, p'⟩, fun x H' y => ?_⟩
    obtain ⟨T, k, v, e1, rfl, e2, rfl⟩ := y
    exact hs i k v T σ H e1 e2 p
  · have e : i = kvs.length := by omega
    subst e
    exact .inl ⟨⟨hl _ _ _ p, Nat.le_refl _⟩, hd σ H p⟩
/-! ### what keep_sittings keeps, by counts -/
noncomputable def keptK (s : Sh) (g : Td.Ag) (gap m : Int) (l : List (Row × Int)) (k : PySem.Str) : List Td.Pt := Td.keepG (swOf s) g gap m (partsK (l.filter fun p => decide (p.1.1 < m)) k)
noncomputable def kcS (s : Sh) (g : Td.Ag) (gap m : Int) (l : List (Row × Int)) (q : Row) : Int :=
  if seenK s q.2.1 = true then (if m ≤ q.1 then Td.cnt l q else Td.cnt (toRows q.2.1 (keptK s g gap m l q.2.1)) q) else 0
noncomputable def kcO (s : Option Sh) (g : Td.Ag) (gap m : Int) (l : List (Row × Int)) (q : Row) : Int := match s with
  | none => 0
  | some s => kcS s g gap m l q
theorem cnt_toRows_ne {k : PySem.Str} {q : Row} (h : q.2.1 ≠ k) : ∀ l : List Td.Pt, Td.cnt (toRows k l) q = 0 := fun l => Td.cnt_zero fun p hp e => by
  obtain ⟨x, _, rfl⟩ := List.mem_map.mp hp
  exact h (by rw [← e])
theorem keepG_len (s : Td.Sw) (g : Td.Ag) (gap m : Int) (l : List Td.Pt) : (Td.keepG s g gap m l).length ≤ 1 := by
  cases h : Td.keepG s g gap m l with
  | nil => exact Nat.zero_le _
  | cons q t =>
    obtain ⟨p, v, _, e, _⟩ := Td.keepG_of (q := q) (by rw [h]; exact List.mem_cons_self ..)
    rw [← h, e]
    exact Nat.le_refl _
theorem partsK_mem {l : List (Row × Int)} {k : PySem.Str} {p : Td.Pt} (h : p ∈ partsK l k) : ∃ r ∈ l, r.1.2.1 = k ∧ p = ptOf r := by
  obtain ⟨r, hr, e⟩ := List.mem_map.mp h
  obtain ⟨h1, h2⟩ := List.mem_filter.mp hr
  exact ⟨r, h1, of_decide_eq_true h2, e.symm⟩
theorem keptK_time {s : Sh} {g : Td.Ag} {gap m : Int} {l : List (Row × Int)} {k : PySem.Str} {p : Td.Pt} (h : p ∈ keptK s g gap m l k) : p.1 < m ∧ 0 < p.2.2 := by
  obtain ⟨z, v, h1, h2, h3⟩ := Td.keepG_of h
  have e : keptK s g gap m l k = [(z.1, v)] := h2
  rw [e, List.mem_singleton] at h
  subst h
  obtain ⟨r, hr, _, e2⟩ := partsK_mem (List.mem_of_getLast? h1)
  have := of_decide_eq_true (List.mem_filter.mp hr).2
  rw [e2]
  exact ⟨this, h3⟩
theorem cnt_kept_late {s : Sh} {g : Td.Ag} {gap m : Int} {l : List (Row × Int)} {k : PySem.Str} {q : Row} (h : m ≤ q.1) : Td.cnt (toRows k (keptK s g gap m l k)) q = 0 := Td.cnt_zero fun p hp e => by
  obtain ⟨x, hx, rfl⟩ := List.mem_map.mp hp
  have := (keptK_time hx).1
  rw [← e] at h
  have h : m ≤ x.1 := h
  omega
def spKeep : Sp := fun vs H Q _ => ∃ v l m gap g u s, vs = [v, .int m, .int gap, .str (agS g), u] ∧ BagV H v l ∧ l.length ≤ 400 ∧ (∀ p ∈ l, 0 < p.2 ∧ p.2 ≤ 1000000) ∧ ShowO H u s ∧ (∀ s', s = some s' → ShOk s') ∧
  ∀ x H' r, Same H H' → BagV H' x r → Can r → (∀ q, Td.cnt r q = kcO s g gap m l q) → r.length ≤ 2 * l.length → Q x H'
/-- the loop's sum -/
theorem kc_sum {s : Sh} {g : Td.Ag} {gap m : Int} {l f : List (Row × Int)} {es : List (PySem.Str × Addr)} (hf : f = (l.filter fun p => seenK s p.1.2.1).filter fun p => decide (p.1.1 < m)) (he : ∀ e ∈ es, partsK f e.1 ≠ []) (ha : ∀ k, partsK f k ≠ [] → k ∈ es.map (·.1)) (q : Row) :
    Td.cnt ((l.filter fun p => seenK s p.1.2.1).filter fun p => decide (m ≤ p.1.1)) q + (if q.2.1 ∈ es.map (·.1) then Td.cnt (toRows q.2.1 (Td.keepG (swOf s) g gap m (partsK f q.2.1))) q else 0) = kcS s g gap m l q := by
  unfold kcS
  rw [Td.cnt_filter (fun r : Row => decide (m ≤ r.1)), Td.cnt_filter (fun r : Row => seenK s r.2.1)]
  by_cases c : seenK s q.2.1 = true
  · have ep : partsK f q.2.1 = partsK (l.filter fun p => decide (p.1.1 < m)) q.2.1 := by
      unfold partsK
      rw [hf, List.filter_filter, List.filter_filter, List.filter_filter]
      congr 1
      refine List.filter_congr fun p _ => ?_
      by_cases h : p.1.2.1 = q.2.1
      · rw [h, c]
        simp
      · simp [h]
    rw [if_pos c, if_pos c, ep]
    by_cases d : m ≤ q.1
    · rw [if_pos (decide_eq_true d), if_pos d]
      have z : Td.cnt (toRows q.2.1 (Td.keepG (swOf s) g gap m (partsK (l.filter fun p => decide (p.1.1 < m)) q.2.1))) q = 0 := cnt_kept_late (s := s) (g := g) (gap := gap) (l := l) d
      rw [z]
      split <;> omega
    · rw [if_neg (by simpa using d), if_neg d]
      by_cases e : q.2.1 ∈ es.map (·.1)
      · rw [if_pos e]
        exact Int.zero_add _
      · rw [if_neg e]
        have n : partsK f q.2.1 = [] := Classical.byContradiction fun z => e (ha _ z)
        rw [ep] at n
        unfold keptK
        rw [n]
        rfl
  · rw [if_neg c, if_neg c]
    have n : q.2.1 ∉ es.map (·.1) := fun h => by
      obtain ⟨e, h1, h2⟩ := List.mem_map.mp h
      have := he e h1
      obtain ⟨p, hp⟩ := List.exists_mem_of_ne_nil _ this
      obtain ⟨r, hr, e1, _⟩ := partsK_mem hp
      rw [hf] at hr
      have := (List.mem_filter.mp (List.mem_filter.mp hr).1).2
      rw [e1, h2] at this
      exact c this
    rw [if_neg n]
    split <;> rfl
theorem toRows_len (k : PySem.Str) (l : List Td.Pt) : (toRows k l).length = l.length := List.length_map _
theorem sc_keep_sittings : FnScope ["bag", "mark", "gap", "aggregate", "show", "rows", "pairs", "key", "parts", "last"] ["bag", "mark", "gap", "aggregate", "show"] (defScope (topS 29)) := ⟨rfl, rfl, rfl, by decide +kernel, rfl, by decide +kernel, by decide +kernel⟩
theorem ok_keep_sittings (T : Txt K mg) : FnOk P w K mg base CX0 8 T.d_keep_sittings.f T.d_keep_sittings.fd ["bag", "mark", "gap", "aggregate", "show"] spKeep := by
  refine T.d_keep_sittings.F.ok sc_keep_sittings (fun vs H Q E h => ?_) (fun cdv A outer s H vs Q E hr h => ?_)
  · obtain ⟨_, _, _, _, _, _, _, rfl, _⟩ := h
    rfl
  · obtain ⟨v, l, m, gap, g, u, s, rfl, hb, hl, hc, hs, ok, q⟩ := h
    refine ⟨_, (pss_cons (ps_set (i := 5) sc_keep_sittings.nd rfl (Or.inl rfl) (pe_call (ok_seen T) (hr.mono (by decide)) (by rfl) T.d_seen.g T.d_seen.F.kp T.d_seen.b .nil pass0 (pa_cons (pv 4) (pa_cons (pv 0) pa_nil))))
      (pss_cons (ps_set (i := 6) sc_keep_sittings.nd rfl (Or.inl rfl) (pe_call (ok_not_final T) (hr.mono (by decide)) (by rfl) T.d_not_final.g T.d_not_final.F.kp T.d_not_final.b .nil pass0 (pa_cons (pv 5) (pa_cons (pv 1) pa_nil))))
      (pss_cons (ps_for PassesOwn.never rfl (pi_items (TdS.pe_frz (pe_call (ok_values_by_key T) (hr.mono (by decide)) (by rfl) T.d_values_by_key.g T.d_values_by_key.F.kp T.d_values_by_key.b .nil pass0 (pa_cons (pe_call (ok_final T) (hr.mono (by decide)) (by rfl) T.d_final.g T.d_final.F.kp T.d_final.b .nil pass0 (pa_cons (pv 5) (pa_cons (pv 1) pa_nil))) pa_nil)))) (pgTup K 2 rfl (pgs_cons (pg_name (i := 7) sc_keep_sittings.nd rfl (Or.inl rfl)) (pgs_cons (pg_name (i := 8) sc_keep_sittings.nd rfl (Or.inl rfl)) pgs_nil)))
        (pss_cons (ps_set (i := 9) sc_keep_sittings.nd rfl (Or.inl rfl) (pe_ix (ixT K) (pe_ix (ixL K) (pv 8) (pe_un un_neg pe_int) (fun _ _ => rfl)) pe_int (fun _ _ => rfl)))
        (pss_one (ps_if (pt_cmpR op_ge (pe_op op_add (pv 9) (pv 2)) (pv 1) (nomark _))
          (pss_one (ps_set (i := 6) sc_keep_sittings.nd rfl (Or.inl rfl) (pe_op op_cat (pv 6) (pe_call (ok_groups_kept T) (hr.mono (by decide)) (by rfl) T.d_groups_kept.g T.d_groups_kept.F.kp T.d_groups_kept.b .nil pass0 (pa_cons (pe_lst (pa_cons (pe_tup (pa_cons (pv 9) (pa_cons (pe_call (ok_last_sitting T) (hr.mono (by decide)) (by rfl) T.d_last_sitting.g T.d_last_sitting.F.kp T.d_last_sitting.b .nil pass0 (pa_cons (pv 8) (pa_cons (pv 2) pa_nil))) pa_nil))) pa_nil)) (pa_cons (pv 7) (pa_cons (pv 3) (pa_cons (pv 4) pa_nil))))))))
          pss_nil))))
      (pss_one (ps_ret (pe_call (ok_changes_of T) (hr.mono (by decide)) (by rfl) T.d_changes_of.g T.d_changes_of.F.kp T.d_changes_of.b .nil pass0 (pa_cons (pv 6) pa_nil))))))), ?_⟩
    refine ⟨_, rfl, _, rfl, u, v, s, l, rfl, hs, hb, by omega, fun x1 H1 s1 b1 => ?_⟩
    have l1 : (l.filter fun p => seenO s p.1.2.1).length ≤ l.length := List.length_filter_le ..
    refine ⟨_, rfl, _, rfl, x1, _, m, rfl, b1, by omega, fun x2 H2 s2 b2 => ?_⟩
    have l2 : ((l.filter fun p => seenO s p.1.2.1).filter fun p => decide (m ≤ p.1.1)).length ≤ l.length := Nat.le_trans (List.length_filter_le ..) l1
    refine ⟨_, rfl, _, rfl, x1, _, m, rfl, b1.mono s2, by omega, fun x3 H3 s3 b3 => ?_⟩
    have l3 : ((l.filter fun p => seenO s p.1.2.1).filter fun p => decide (p.1.1 < m)).length ≤ l.length := Nat.le_trans (List.length_filter_le ..) l1
    refine ⟨x3, _, rfl, b3, by omega, fun fo H4 es nf B => ?_⟩
    refine ⟨fo, _, rfl, B.at_, trivial, fun od => ?_⟩
    refine ⟨fo, od, es.map entK, rfl, upd_same, ?_⟩
    have s4 : Same H (upd H4 fo (.frz od (.dK (es.map entK)))) := fun b o e => same_upd B.same nf _ _ (s3 _ _ (s2 _ _ (s1 _ _ e)))
    have s2' : Same H2 (upd H4 fo (.frz od (.dK (es.map entK)))) := fun b o e => same_upd B.same nf _ _ (s3 _ _ e)
    have hpts : ∀ e ∈ es, PtsV (upd H4 fo (.frz od (.dK (es.map entK)))) (.ref e.2) (partsK ((l.filter fun p => seenO s p.1.2.1).filter fun p => decide (p.1.1 < m)) e.1) := fun e he => by
      obtain ⟨_, _, a, zs, e1, a3, a4⟩ := B.ent e he
      cases e1
      refine ⟨e.2, zs, rfl, ?_, pmap a4 fun _ _ z => z.mono (tup_dK B.at_)⟩
      rw [upd_ne (fun z => by have := B.at_; rw [← z, a3] at this; cases this)]
      exact a3
    generalize hHd : upd H4 fo (.frz od (.dK (es.map entK))) = Hd at s4 s2' hpts
    have hfz : Hd fo = some (.frz od (.dK (es.map entK))) := by rw [← hHd]; exact upd_same
    generalize hff : ((l.filter fun p => seenO s p.1.2.1).filter fun p => decide (p.1.1 < m)) = f at hpts B l3
    have hfm : ∀ p ∈ f, p ∈ l ∧ p.1.1 < m ∧ seenO s p.1.2.1 = true := fun p hp => by
      rw [← hff] at hp
      obtain ⟨h1, h2⟩ := List.mem_filter.mp hp
      obtain ⟨h3, h4⟩ := List.mem_filter.mp h1
      exact ⟨h3, of_decide_eq_true h2, h4⟩
    have sw : ∀ (k : PySem.Str), partsK f k ≠ [] → ∃ s', s = some s' := fun k hk => by
      obtain ⟨p, hp⟩ := List.exists_mem_of_ne_nil _ hk
      obtain ⟨r, hr, _, _⟩ := partsK_mem hp
      have := (hfm r hr).2.2
      cases s with
      | none => cases this
      | some s' => exact ⟨s', rfl⟩
    have add : ∀ (s' : Sh), s = some s' → ∀ i e, es[i]? = some e → ∀ ps : List (Row × Int), (∀ q, Td.cnt ps q = Td.cnt ((l.filter fun p => seenO s p.1.2.1).filter fun p => decide (m ≤ p.1.1)) q + (if q.2.1 ∈ (es.take i).map (·.1) then Td.cnt (toRows q.2.1 (Td.keepG (swOf s') g gap m (partsK f q.2.1))) q else 0)) →
        ∀ q, Td.cnt (ps ++ toRows e.1 (Td.keepG (swOf s') g gap m (partsK f e.1))) q = Td.cnt ((l.filter fun p => seenO s p.1.2.1).filter fun p => decide (m ≤ p.1.1)) q + (if q.2.1 ∈ (es.take (i + 1)).map (·.1) then Td.cnt (toRows q.2.1 (Td.keepG (swOf s') g gap m (partsK f q.2.1))) q else 0) := fun s' es' i e he ps h q => by
      have ne : e.1 ∉ (es.take i).map (·.1) := fun hm => by
        have nd : ((es.take (i + 1)).map (·.1)).Nodup := by
          rw [List.map_take]
          exact B.keys.sublist (List.take_sublist ..)
        rw [take_snoc he, List.map_append] at nd
        exact (List.nodup_append.mp nd).2.2 _ hm _ (List.mem_cons_self ..) rfl
      rw [Td.cnt_append, h q, take_snoc he, List.map_append]
      by_cases c : q.2.1 = e.1
      · have hm : e.1 ∈ (es.take i).map (·.1) ++ [e].map (·.1) := List.mem_append_right _ (List.mem_cons_self ..)
        rw [c, if_neg ne, if_pos hm]
        omega
      · rw [cnt_toRows_ne c]
        have : (q.2.1 ∈ (es.take i).map (·.1) ++ [e].map (·.1)) ↔ q.2.1 ∈ (es.take i).map (·.1) := by
          rw [List.mem_append]
          constructor
          · rintro (h | h)
            · exact h
            · exact absurd (List.mem_singleton.mp h) c
          · exact .inl
        by_cases d : q.2.1 ∈ (es.take i).map (·.1)
        · rw [if_pos d, if_pos (this.mpr d)]
          omega
        · rw [if_neg d, if_neg (fun z => d (this.mp z))]
          omega
    refine for_items (fun i σ' H' => ∃ x7 x8 x9 pr ps, σ' = [some v, some (.int m), some (.int gap), some (.str (agS g)), some u, some x1, some pr, x7, x8, x9] ∧ Same Hd H' ∧ BagV H' pr ps ∧ ps.length ≤ l.length + i ∧
        (∀ s', s = some s' → ∀ q, Td.cnt ps q = Td.cnt ((l.filter fun p => seenO s p.1.2.1).filter fun p => decide (m ≤ p.1.1)) q + (if q.2.1 ∈ (es.take i).map (·.1) then Td.cnt (toRows q.2.1 (Td.keepG (swOf s') g gap m (partsK f q.2.1))) q else 0)) ∧ (s = none → ps = []))
      ⟨_, _, _, x2, _, rfl, Same.refl _, b2.mono s2', by omega, fun s' _ q => ?_, fun e => ?_⟩ (fun i σ' H' n => ?_) (fun i k vv t σ' H' hk nt n => ?_) fun σ' H' n => ?_
    · rw [List.take_zero, List.map_nil, if_neg (fun z => by simp at z)]
      exact (Int.add_zero _).symm
    · subst e
      rw [show (l.filter fun p => seenO none p.1.2.1) = [] from List.filter_eq_nil_iff.mpr fun _ _ z => by cases z]
      rfl
    · obtain ⟨_, _, _, _, _, _, sm, _⟩ := n
      exact sm _ _ hfz
    · obtain ⟨x7, x8, x9, pr, ps, rfl, sm, bp, lp, hcn, hno⟩ := n
      rw [List.getElem?_map] at hk
      cases he : es[i]? with
      | none => rw [he] at hk; cases hk
      | some e =>
        rw [he] at hk
        cases hk
        have hm : e ∈ es := List.mem_of_getElem? he
        have hil : i < es.length := (List.getElem?_eq_some_iff.mp he).1
        have lil : i < 400 := Nat.lt_of_lt_of_le hil (Nat.le_trans B.few (by omega))
        have ne := (B.ent e hm).2.1
        obtain ⟨s', rfl⟩ := sw _ ne
        have sok := ok s' rfl
        have st : Same Hd (upd H' t (.tup [kV (entK e).1, (entK e).2])) := sm.trans (same_new nt)
        refine ⟨t, _, rfl, SqT.of upd_same, rfl, _, _, rfl, _, _, rfl, rfl, ?_⟩
        have hp := (hpts e hm).mono st
        obtain ⟨pa, zs, epa, hpa, hpz⟩ := id hp
        cases epa
        obtain ⟨pt, hlast⟩ : ∃ pt, (partsK f e.1).getLast? = some pt := by
          cases h : (partsK f e.1).getLast? with
          | none => exact absurd (List.getLast?_eq_none_iff.mp h) ne
          | some pt => exact ⟨pt, rfl⟩
        obtain ⟨init, ei⟩ := List.getLast?_eq_some_iff.mp hlast
        have lenp : (partsK f e.1).length ≤ 400 := Nat.le_trans (partsK_len _ _) (Nat.le_trans l3 hl)
        have gl : (partsK f e.1)[init.length]? = some pt := by rw [ei]; simp
        obtain ⟨z, hz, ta, rfl, hta⟩ := pair_got hpz gl
        have lz : zs.length = init.length + 1 := by
          rw [Paired.length hpz, ei, List.length_append]
          rfl
        have ez : zs = zs.take init.length ++ [.ref ta] := by
          have h1 := split_at hz
          rwa [List.drop_eq_nil_of_le (by omega)] at h1
        rw [ez] at hpa
        refine ⟨_, rfl, _, rfl, _, _, _, _, rfl, rfl, SqL.of hpa, atI_last _ _, _, _, _, _, rfl, rfl, SqT.of hta, rfl, ?_⟩
        refine ⟨_, rfl, _, rfl, _, _, rfl, rfl, _, rfl, _, _, rfl, rfl, _, rfl, ite2 (fun c => ?_) fun c => ?_⟩
        · have c' := of_decide_eq_true c
          refine ⟨_, rfl, _, rfl, _, rfl, _, rfl, .ref e.2, _, gap, rfl, hp, ne, by omega, fun y H5 s5 hy => ?_⟩
          refine ⟨(by show 2 ≤ sizeLine; decide), fun g1 hg1 => ⟨(by show 1 ≤ sizeLine; decide), fun g2 hg2 => ?_⟩⟩
          have s6 := (same_new (o := .tup [.int pt.1, y]) hg1).trans (same_new (o := .lst [.ref g1]) hg2)
          have sa := st.trans (s5.trans s6)
          refine ⟨_, rfl, _, rfl, _, rfl, .ref g2, pt.1, Td.lastSit gap (partsK f e.1), e.1, g, u, s', rfl, ⟨g2, g1, y, rfl, upd_same, same_new hg2 _ _ upd_same, hy.mono s6⟩, Td.lastSit_ne gap ne, Nat.le_trans (Td.lastSit_len gap _) (by omega), fun p hp' => ?_, ?_, sok, fun x H6 s7 bx => ?_⟩
          · obtain ⟨r, hr, _, e2⟩ := partsK_mem (Td.lastSit_sub gap p hp')
            rw [e2]
            exact hc r (hfm r hr).1
          · exact ShowV.mono (tup_of (s4.trans sa)) hs
          · have eK : Td.rowOf pt.1 (Td.aggV (swOf s') g (Td.lastSit gap (partsK f e.1))) = Td.keepG (swOf s') g gap m (partsK f e.1) := by
              rw [Td.keepG_last hlast, if_pos c']
            rw [eK] at bx
            have sb := sa.trans s7
            obtain ⟨p1, v1, rfl, h1, q1⟩ := (bp.mono (same_new nt)).mono (s5.trans (s6.trans s7))
            obtain ⟨p2, v2, rfl, h2, q2⟩ := bx
            have k1 := Paired.length q1
            have k2 := Paired.length q2
            have k3 := keepG_len (swOf s') g gap m (partsK f e.1)
            rw [toRows_len] at k2
            refine ⟨p1, p2, v1, v2, rfl, rfl, h1, h2, size1000 (by omega), fun pn npn => ?_⟩
            have sc := sb.trans (same_new (o := .lst (v1 ++ v2)) npn)
            refine ⟨_, _, _, .ref pn, ps ++ toRows e.1 (Td.keepG (swOf s') g gap m (partsK f e.1)), rfl, sc, ⟨pn, v1 ++ v2, rfl, upd_same, pmap (pair_app q1 q2) fun _ _ z => z.mono (tup_new npn)⟩, ?_, fun s'' e'' => ?_, fun e'' => by cases e''⟩
            · rw [List.length_append, toRows_len]
              omega
            · cases e''
              exact add s' rfl i e he ps (hcn s' rfl)
        · have c' := of_decide_eq_false (Bool.eq_false_iff.mpr c)
          have eK : Td.keepG (swOf s') g gap m (partsK f e.1) = [] := by
            rw [Td.keepG_last hlast, if_neg c']
          refine ⟨_, _, _, pr, ps, rfl, st, bp.mono (same_new nt), by omega, fun s'' e'' => ?_, fun e'' => by cases e''⟩
          cases e''
          have := add s' rfl i e he ps (hcn s' rfl)
          rw [eK] at this
          intro q
          rw [← this q]
          show _ = Td.cnt (ps ++ []) q
          rw [List.append_nil]
    · obtain ⟨x7, x8, x9, pr, ps, rfl, sm, bp, lp, hcn, hno⟩ := n
      rw [List.length_map] at lp hcn
      have le : es.length ≤ l.length := Nat.le_trans B.few l3
      refine ⟨_, rfl, pr, ps, rfl, bp, by omega, fun x H' r s5 br cr er lr => ?_⟩
      refine q x H' r (s4.trans (sm.trans s5)) br cr (fun z => ?_) (by omega)
      rw [er z]
      cases s with
      | none =>
        rw [hno rfl]
        rfl
      | some s' =>
        rw [hcn s' rfl z, List.take_length]
        exact kc_sum hff.symm (fun e he => (B.ent e he).2.1) B.all z
end
end L2.K21
namespace L2.K21
open PySem PySem.Spec PyProof.Rows
open TdS (RowA ltR SortedOf)
section
variable {P : Program} {w : World} {K : PySem.W.Frag} {mg : PySem.Str → Option Value} {base : Heap}
/-! ### the law's draws: any number below the bound may come -/
def SameX (d : Addr) (H H' : Hp) : Prop := ∀ b o, b ≠ d → H b = some o → H' b = some o
def Draw (H : Hp) (d s : Addr) : Prop := ∃ (i ca se : Int) (ns : List Int), H d = some (.lst [.ref s, .int i, .int ca, .int se]) ∧ H s = some (.lst (ns.map V.int)) ∧ 0 ≤ i ∧ i ≤ (ns.length : Int) ∧ 0 ≤ ca ∧ 0 ≤ se ∧ se < 2147483647
theorem SameX.refl (d : Addr) (H : Hp) : SameX d H H := fun _ _ _ h => h
theorem SameX.trans {d : Addr} {H H1 H2 : Hp} (a : SameX d H H1) (b : SameX d H1 H2) : SameX d H H2 := fun c o n h => b c o n (a c o n h)
theorem sameX_of {d : Addr} {H H' : Hp} (s : Same H H') : SameX d H H' := fun b o _ e => s b o e
theorem Draw.mono {H H' : Hp} {d a : Addr} (s : Same H H') (h : Draw H d a) : Draw H' d a := by
  obtain ⟨i, ca, se, ns, h1, h2, h3⟩ := h
  exact ⟨i, ca, se, ns, s _ _ h1, s _ _ h2, h3⟩
theorem Draw.put {H : Hp} {d a p : Addr} {o : HO} (h : Draw H d a) (n1 : p ≠ d) (n2 : p ≠ a) : Draw (upd H p o) d a := by
  obtain ⟨i, ca, se, ns, h1, h2, h3⟩ := h
  exact ⟨i, ca, se, ns, by rw [upd_ne n1.symm]; exact h1, by rw [upd_ne n2.symm]; exact h2, h3⟩
/-- a new address is neither of the draw's -/
theorem Draw.new {H : Hp} {d a p : Addr} (h : Draw H d a) (n : H p = none) : p ≠ d ∧ p ≠ a := by
  obtain ⟨i, ca, se, ns, h1, h2, h3⟩ := h
  exact ⟨(ne_of_none h1 n).symm, (ne_of_none h2 n).symm⟩
theorem tupX {H H' : Hp} {d a : Addr} (h : Draw H d a) (s : SameX d H H') : Tup H H' := fun b ys e => by
  refine s b _ (fun z => ?_) e
  obtain ⟨i, ca, se, ns, h1, _⟩ := h
  rw [z, h1] at e
  cases e
/-- a list of objects is not the draw -/
theorem lst_ne {H : Hp} {d s a : Addr} {xs : List V} (h : Draw H d s) (e : H a = some (.lst xs)) (hr : ∀ x ∈ xs, ∃ b, x = V.ref b) : a ≠ d := fun z => by
  obtain ⟨i, ca, se, ns, h1, _⟩ := h
  rw [z, h1] at e
  cases e
  obtain ⟨c, hc⟩ := hr (.int i) (by simp)
  cases hc
theorem BagV.monoX {H H' : Hp} {d a0 : Addr} {v : V} {l : List (Row × Int)} (h : Draw H d a0) (s : SameX d H H') (b : BagV H v l) : BagV H' v l := by
  obtain ⟨a, xs, e, h1, h2⟩ := b
  refine ⟨a, xs, e, s _ _ (lst_ne h h1 fun x hx => ?_) h1, pmap h2 fun _ _ q => q.mono (tupX h s)⟩
  obtain ⟨y, _, b, c, e, _⟩ := pair_all h2 x hx
  exact ⟨b, e⟩
def spDraw (K : PySem.W.Frag) : Sp := fun vs H Q _ => ∃ (a : Addr) (ns : List Int), vs = [.ref a] ∧ SqL K H a (ns.map V.int) ∧ ∀ d s H', Same H H' → H d = none → Draw H' d s → Q (.ref d) H'
theorem sc__law_draw : FnScope ["_law_script"] ["_law_script"] (defScope (topS 31)) := ⟨rfl, rfl, rfl, by decide +kernel, rfl, by decide +kernel, by decide +kernel⟩
theorem ok__law_draw (T : Txt K mg) : FnOk P w K mg base CX0 1 T.d__law_draw.f T.d__law_draw.fd ["_law_script"] (spDraw K) := by
  refine T.d__law_draw.F.ok sc__law_draw (fun vs H Q E h => ?_) (fun cdv A outer s H vs Q E hr h => ?_)
  · obtain ⟨_, _, rfl, _⟩ := h
    rfl
  · obtain ⟨a, ns, rfl, ha, q⟩ := h
    refine ⟨_, (pss_one (ps_ret (pe_lst (pa_cons (pe_callTy call_list_of (by rfl) T.z_list (by decide +kernel) (pa_cons (pv 0) pa_nil)) (pa_cons pe_int (pa_cons pe_int (pa_cons pe_int pa_nil))))))), ?_⟩
    refine ⟨_, rfl, a, _, rfl, .inl ha, fun l nl => ⟨(by show 4 ≤ sizeLine; decide), fun d nd => ?_⟩⟩
    have s1 := (same_new (o := .lst (ns.map V.int)) nl).trans (same_new (o := .lst [.ref l, .int 0, .int 0, .int 17]) nd)
    exact q d l _ s1 ((same_new nl).free nd) ⟨0, 0, 17, ns, upd_same, same_new nd _ _ upd_same, by omega, by omega, by omega, by omega, by omega⟩
def spNext : Sp := fun vs H Q _ => ∃ d s m, vs = [.ref d, .int m] ∧ Draw H d s ∧ 0 < m ∧ m < 1073741824 ∧ ∀ n H', 0 ≤ n → n < m → SameX d H H' → Draw H' d s → Q (.int n) H'
theorem sameX_put {d : Addr} {H : Hp} {o : HO} : SameX d H (upd H d o) := fun b u n e => by
  rw [upd_ne n]
  exact e
theorem sc__law_next : FnScope ["_law_draw_here", "_law_many", "_law_found", "_law_cell"] ["_law_draw_here", "_law_many"] (defScope (topS 32)) := ⟨rfl, rfl, rfl, by decide +kernel, rfl, by decide +kernel, by decide +kernel⟩
theorem ok__law_next (T : Txt K mg) : FnOk P w K mg base CX0 1 T.d__law_next.f T.d__law_next.fd ["_law_draw_here", "_law_many"] spNext := by
  refine T.d__law_next.F.ok sc__law_next (fun vs H Q E h => ?_) (fun cdv A outer s0 H vs Q E hr h => ?_)
  · obtain ⟨_, _, _, rfl, _⟩ := h
    rfl
  · obtain ⟨d, s, m, rfl, ⟨i, ca, se, ns, hd, hs, i0, i1, c0, s0', s1'⟩, m0, m1, q⟩ := h
    refine ⟨_, (pss_cons (ps_if (pt_cmpR op_gt (pe_ix (ixL K) (pv 0) pe_int (fun _ _ => rfl)) pe_int (nomark _))
        (pss_cons (ps_set (i := 2) sc__law_next.nd rfl (Or.inl rfl) (pe_op op_mod (pe_callTy call_int1 (by rfl) T.z_int (by decide +kernel) (pa_cons (pe_ix (ixL K) (pv 0) pe_int (fun _ _ => rfl)) pa_nil)) (pv 1)))
        (pss_cons (ps_asg (pe_op op_fdiv (pe_ix (ixL K) (pv 0) pe_int (fun _ _ => rfl)) (pv 1)) (pg_sub (pv 0) pe_int set_list))
        (pss_one (ps_ret (pv 2)))))
        pss_nil)
      (pss_cons (ps_if (pt_cmpR op_lt (pe_ix (ixL K) (pv 0) pe_int (fun _ _ => rfl)) (pe_callB call_len_seq (by rfl) T.z_len (by decide +kernel) (pa_cons (pe_ix (ixL K) (pv 0) pe_int (fun _ _ => rfl)) pa_nil)) (nomark _))
        (pss_cons (ps_set (i := 3) sc__law_next.nd rfl (Or.inl rfl) (pe_callB call_abs (by rfl) T.z_abs (by decide +kernel) (pa_cons (pe_ix (ixL K) (pe_ix (ixL K) (pv 0) pe_int (fun _ _ => rfl)) (pe_ix (ixL K) (pv 0) pe_int (fun _ _ => rfl)) (fun _ _ => rfl)) pa_nil)))
        (pss_cons (ps_asg (pe_op op_add (pe_ix (ixL K) (pv 0) pe_int (fun _ _ => rfl)) pe_int) (pg_sub (pv 0) pe_int set_list))
        (pss_cons (ps_if (pt_cmpR op_ge (pv 3) (pe_op op_pow pe_int pe_int) (nomark _))
          (pss_cons (ps_asg (pe_op op_fdiv (pv 3) (pv 1)) (pg_sub (pv 0) pe_int set_list))
          (pss_one (ps_ret (pe_op op_mod (pe_callTy call_int1 (by rfl) T.z_int (by decide +kernel) (pa_cons (pv 3) pa_nil)) (pv 1)))))
          pss_nil)
        (pss_one (ps_asg (pe_op op_mod (pe_callTy call_int1 (by rfl) T.z_int (by decide +kernel) (pa_cons (pe_op op_add (pe_op op_add (pe_op op_mul (pe_ix (ixL K) (pv 0) pe_int (fun _ _ => rfl)) pe_int) (pv 3)) pe_int) pa_nil)) pe_int) (pg_sub (pv 0) pe_int set_list))))))
        (pss_one (ps_asg (pe_op op_mod (pe_callTy call_int1 (by rfl) T.z_int (by decide +kernel) (pa_cons (pe_op op_add (pe_op op_mul (pe_ix (ixL K) (pv 0) pe_int (fun _ _ => rfl)) pe_int) pe_int) pa_nil)) pe_int) (pg_sub (pv 0) pe_int set_list))))
      (pss_one (ps_ret (pe_op op_mod (pe_op op_fdiv (pe_callTy call_int1 (by rfl) T.z_int (by decide +kernel) (pa_cons (pe_op op_mod (pe_op op_mul (pe_ix (ixL K) (pv 0) pe_int (fun _ _ => rfl)) pe_int) pe_int) pa_nil)) pe_int) (pv 1)))))), ?_⟩
    have sd : s ≠ d := fun z => by
      rw [z, hd] at hs
      have h1 := HO.lst.inj (Option.some.inj hs)
      cases ns with
      | nil => cases h1
      | cons a r => cases (List.cons.inj h1).1
    refine ⟨_, rfl, _, _, _, _, rfl, rfl, SqL.of hd, rfl, _, _, rfl, rfl, _, rfl, ite2 (fun c => ?_) fun c => ?_⟩
    · refine ⟨_, rfl, _, _, _, _, rfl, rfl, SqL.of hd, rfl, .inl ⟨_, rfl, _, rfl, _, _, rfl, rfl, m0, ?_⟩⟩
      refine ⟨_, rfl, _, _, _, _, rfl, rfl, SqL.of hd, rfl, _, rfl, _, _, rfl, rfl, ⟨m0, m1⟩, _, rfl, d, _, _, 2, rfl, rfl, hd, rfl, ?_⟩
      refine ⟨_, rfl, q _ _ (Int.emod_nonneg _ (by omega)) (Int.emod_lt_of_pos _ m0) sameX_put ⟨i, ca / m, se, ns, upd_same, ?_, i0, i1, Int.ediv_nonneg c0 (by omega), s0', s1'⟩⟩
      rw [upd_ne sd]
      exact hs
    · refine ⟨_, rfl, _, _, _, _, rfl, rfl, SqL.of hd, rfl, _, rfl, _, _, _, _, rfl, rfl, SqL.of hd, rfl, _, _, rfl, .inl (SqL.of hs), _, _, rfl, rfl, _, rfl, ?_⟩
      have fin : ∀ (σ' : St) (H1 : Hp) (i' se' : Int), H1 = upd (upd H d (.lst [.ref s, .int i', .int ca, .int se])) d (.lst [.ref s, .int i', .int ca, .int se']) → 0 ≤ i' → i' ≤ (ns.length : Int) → 0 ≤ se' → se' < 2147483647 → Draw H1 d s ∧ SameX d H H1 ∧ H1 d = some (.lst [.ref s, .int i', .int ca, .int se']) := fun σ' H1 i' se' e a1 a2 a3 a4 => by
        subst e
        refine ⟨⟨i', ca, se', ns, upd_same, ?_, a1, a2, c0, a3, a4⟩, SameX.trans sameX_put sameX_put, upd_same⟩
        rw [upd_ne sd, upd_ne sd]
        exact hs
      rw [List.length_map]
      refine ite2 (fun b => ?_) fun b => ?_
      · have b' := of_decide_eq_true b
        have hi : i.toNat < ns.length := by omega
        have gt : (ns.map V.int)[i.toNat]? = some (.int ns[i.toNat]) := by
          rw [List.getElem?_map, List.getElem?_eq_getElem hi]
          rfl
        refine ⟨_, rfl, _, _, _, _, rfl, rfl, SqL.of hd, rfl, _, rfl, _, _, _, _, rfl, rfl, SqL.of hd, rfl, _, _, _, _, rfl, rfl, SqL.of hs, at_of (j := i.toNat) (by omega) gt, _, rfl, ?_⟩
        generalize hz : (if ns[i.toNat] < 0 then -ns[i.toNat] else ns[i.toNat]) = z
        have z0 : 0 ≤ z := by
          rw [← hz]
          split <;> omega
        refine ⟨_, rfl, _, _, _, _, rfl, rfl, SqL.of hd, rfl, _, _, rfl, rfl, _, rfl, d, _, _, 1, rfl, rfl, hd, rfl, ?_⟩
        have h1d : (upd H d (.lst [.ref s, .int (i + 1), .int ca, .int se])) d = some (.lst [.ref s, .int (i + 1), .int ca, .int se]) := upd_same
        refine ⟨_, rfl, _, _, rfl, rfl, ⟨by omega, by omega, by decide⟩, _, _, rfl, rfl, _, rfl, ite2 (fun e => ?_) fun e => ?_⟩
        · refine ⟨_, rfl, _, rfl, _, _, rfl, rfl, ⟨m0, m1⟩, _, rfl, d, _, _, 2, rfl, rfl, h1d, rfl, ?_⟩
          refine ⟨_, rfl, .inl ⟨_, rfl, _, rfl, _, _, rfl, rfl, m0, ?_⟩⟩
          refine q _ _ (Int.emod_nonneg _ (by omega)) (Int.emod_lt_of_pos _ m0) (SameX.trans sameX_put sameX_put) ⟨i + 1, z / m, se, ns, upd_same, ?_, by omega, by omega, Int.ediv_nonneg z0 (by omega), s0', s1'⟩
          rw [upd_ne sd, upd_ne sd]
          exact hs
        · refine ⟨_, rfl, _, _, _, _, rfl, rfl, SqL.of h1d, rfl, _, _, rfl, rfl, .inl ⟨by omega, by omega⟩, _, rfl, _, _, rfl, rfl, _, _, rfl, rfl, .inl ⟨_, rfl, _, _, rfl, rfl, by omega, _, rfl, d, _, _, 3, rfl, rfl, h1d, rfl, ?_⟩⟩
          obtain ⟨f1, f2, f3⟩ := fin [] _ (i + 1) ((se * 48271 + z + 11) % 2147483647) rfl (by omega) (by omega) (Int.emod_nonneg _ (by omega)) (Int.emod_lt_of_pos _ (by omega))
          refine ⟨_, rfl, _, _, _, _, rfl, rfl, SqL.of f3, rfl, _, _, rfl, rfl, .inr ⟨by omega, by omega⟩, _, _, rfl, rfl, by omega, .inl ⟨_, rfl, _, _, rfl, rfl, ⟨by omega, by omega⟩, _, rfl, _, _, rfl, rfl, m0, ?_⟩⟩
          exact q _ _ (Int.emod_nonneg _ (by omega)) (Int.emod_lt_of_pos _ m0) f2 f1
      · refine ⟨_, rfl, _, _, _, _, rfl, rfl, SqL.of hd, rfl, _, _, rfl, rfl, .inl ⟨by omega, by omega⟩, _, _, rfl, rfl, .inl ⟨_, rfl, _, _, rfl, rfl, by omega, _, rfl, d, _, _, 3, rfl, rfl, hd, rfl, ?_⟩⟩
        have f1 : Draw (upd H d (.lst [.ref s, .int i, .int ca, .int ((se * 48271 + 12345) % 2147483647)])) d s := ⟨i, ca, _, ns, upd_same, by rw [upd_ne sd]; exact hs, i0, i1, c0, Int.emod_nonneg _ (by omega), Int.emod_lt_of_pos _ (by omega)⟩
        refine ⟨_, rfl, _, _, _, _, rfl, rfl, SqL.of upd_same, rfl, _, _, rfl, rfl, .inr ⟨by omega, by omega⟩, _, _, rfl, rfl, by omega, .inl ⟨_, rfl, _, _, rfl, rfl, ⟨by omega, by omega⟩, _, rfl, _, _, rfl, rfl, m0, ?_⟩⟩
        exact q _ _ (Int.emod_nonneg _ (by omega)) (Int.emod_lt_of_pos _ m0) sameX_put f1
end
end L2.K21
namespace L2.K21
open PySem PySem.Spec PyProof.Rows
open TdS (RowA ltR SortedOf)
section
variable {P : Program} {w : World} {K : PySem.W.Frag} {mg : PySem.Str → Option Value} {base : Heap}
theorem pick {α : Type} (xs : List α) (f : α → V) {n : Int} (h0 : 0 ≤ n) (h1 : n < (xs.length : Int)) : ∃ x ∈ xs, atI (xs.map f) n = some (f x) := by
  have hi : n.toNat < xs.length := by omega
  refine ⟨xs[n.toNat], List.getElem_mem hi, at_of (j := n.toNat) (by omega) ?_⟩
  rw [List.getElem?_map, List.getElem?_eq_getElem hi]
  rfl
def spMark : Sp := fun vs H Q _ => ∃ d s, vs = [.ref d] ∧ Draw H d s ∧ ∀ m H', SameX d H H' → Draw H' d s → Q (.int m) H'
theorem sc__law_mark : FnScope ["_law_draw_here"] ["_law_draw_here"] (defScope (topS 47)) := ⟨rfl, rfl, rfl, by decide +kernel, rfl, by decide +kernel, by decide +kernel⟩
theorem ok__law_mark (T : Txt K mg) : FnOk P w K mg base CX0 2 T.d__law_mark.f T.d__law_mark.fd ["_law_draw_here"] spMark := by
  refine T.d__law_mark.F.ok sc__law_mark (fun vs H Q E h => ?_) (fun cdv A outer s0 H vs Q E hr h => ?_)
  · obtain ⟨_, _, rfl, _⟩ := h
    rfl
  · obtain ⟨d, s, rfl, hd, q⟩ := h
    refine ⟨_, (pss_one (ps_ret (pe_op op_sub (pe_call (ok__law_next T) (hr.mono (by decide)) (by rfl) T.d__law_next.g T.d__law_next.F.kp T.d__law_next.b .nil pass0 (pa_cons (pv 0) (pa_cons pe_int pa_nil))) pe_int))), ?_⟩
    exact ⟨_, rfl, d, s, 34, rfl, hd, by omega, by omega, fun n H1 _ _ s1 d1 => ⟨_, _, rfl, rfl, q _ _ s1 d1⟩⟩
def spAgg : Sp := fun vs H Q _ => ∃ d s, vs = [.ref d] ∧ Draw H d s ∧ ∀ g H', SameX d H H' → Draw H' d s → Q (.str (agS g)) H'
theorem draw_ne {H : Hp} {d s l : Addr} (h : Draw H d s) (n : H l = none) : l ≠ d := (h.new n).1
theorem sc__law_aggregate : FnScope ["_law_draw_here"] ["_law_draw_here"] (defScope (topS 49)) := ⟨rfl, rfl, rfl, by decide +kernel, rfl, by decide +kernel, by decide +kernel⟩
theorem ok__law_aggregate (T : Txt K mg) : FnOk P w K mg base CX0 2 T.d__law_aggregate.f T.d__law_aggregate.fd ["_law_draw_here"] spAgg := by
  refine T.d__law_aggregate.F.ok sc__law_aggregate (fun vs H Q E h => ?_) (fun cdv A outer s0 H vs Q E hr h => ?_)
  · obtain ⟨_, _, rfl, _⟩ := h
    rfl
  · obtain ⟨d, s, rfl, hd, q⟩ := h
    refine ⟨_, (pss_one (ps_ret (pe_ix (ixL K) (pe_lst (pa_cons pe_str (pa_cons pe_str (pa_cons pe_str (pa_cons pe_str pa_nil))))) (pe_call (ok__law_next T) (hr.mono (by decide)) (by rfl) T.d__law_next.g T.d__law_next.F.kp T.d__law_next.b .nil pass0 (pa_cons (pv 0) (pa_cons pe_int pa_nil))) (fun _ _ => rfl)))), ?_⟩
    refine ⟨(by show 4 ≤ sizeLine; decide), fun l nl => ⟨_, rfl, d, s, 4, rfl, hd.mono (same_new nl), by omega, by omega, fun n H1 n0 n1 s1 d1 => ?_⟩⟩
    have hl := s1 l _ (draw_ne hd nl) upd_same
    obtain ⟨g, _, hg⟩ := pick [Td.Ag.count, .sum, .least, .greatest] (fun g => V.str (agS g)) n0 n1
    exact ⟨l, _, n, _, rfl, rfl, SqL.of hl, hg, q g _ ((sameX_of (same_new nl)).trans s1) d1⟩
def spPasses : Sp := fun vs H Q _ => ∃ c x b, vs = [.str c, .int x, .int b] ∧ ∀ k, Q (.bl k) H
theorem sc__law_passes : FnScope ["_law_comparison", "_law_value_here", "_law_bound"] ["_law_comparison", "_law_value_here", "_law_bound"] (defScope (topS 34)) := ⟨rfl, rfl, rfl, by decide +kernel, rfl, by decide +kernel, by decide +kernel⟩
theorem ok__law_passes (T : Txt K mg) : FnOk P w K mg base CX0 1 T.d__law_passes.f T.d__law_passes.fd ["_law_comparison", "_law_value_here", "_law_bound"] spPasses := by
  refine T.d__law_passes.F.ok sc__law_passes (fun vs H Q E h => ?_) (fun cdv A outer s0 H vs Q E hr h => ?_)
  · obtain ⟨_, _, _, rfl, _⟩ := h
    rfl
  · obtain ⟨c, x, b, rfl, q⟩ := h
    refine ⟨_, (pss_cons (ps_if (pt_cmpR op_eq (pv 0) pe_str (nomark _))
        (pss_one (ps_ret (pe_cmpR op_lt (pv 1) (pv 2) (nomark _))))
        pss_nil)
      (pss_cons (ps_if (pt_cmpR op_eq (pv 0) pe_str (nomark _))
        (pss_one (ps_ret (pe_cmpR op_le (pv 1) (pv 2) (nomark _))))
        pss_nil)
      (pss_cons (ps_if (pt_cmpR op_eq (pv 0) pe_str (nomark _))
        (pss_one (ps_ret (pe_cmpR op_eq (pv 1) (pv 2) (nomark _))))
        pss_nil)
      (pss_cons (ps_if (pt_cmpR op_eq (pv 0) pe_str (nomark _))
        (pss_one (ps_ret (pe_cmpR op_ne (pv 1) (pv 2) (nomark _))))
        pss_nil)
      (pss_cons (ps_if (pt_cmpR op_eq (pv 0) pe_str (nomark _))
        (pss_one (ps_ret (pe_cmpR op_ge (pv 1) (pv 2) (nomark _))))
        pss_nil)
      (pss_one (ps_ret (pe_cmpR op_gt (pv 1) (pv 2) (nomark _))))))))), ?_⟩
    refine ⟨_, rfl, rfl, _, rfl, ite2 (fun _ => ⟨_, rfl, _, rfl, _, _, rfl, rfl, q _⟩) fun _ => ?_⟩
    refine ⟨_, rfl, rfl, _, rfl, ite2 (fun _ => ⟨_, rfl, _, rfl, _, _, rfl, rfl, q _⟩) fun _ => ?_⟩
    refine ⟨_, rfl, rfl, _, rfl, ite2 (fun _ => ⟨_, rfl, _, rfl, rfl, q _⟩) fun _ => ?_⟩
    refine ⟨_, rfl, rfl, _, rfl, ite2 (fun _ => ⟨_, rfl, _, rfl, rfl, q _⟩) fun _ => ?_⟩
    refine ⟨_, rfl, rfl, _, rfl, ite2 (fun _ => ⟨_, rfl, _, rfl, _, _, rfl, rfl, q _⟩) fun _ => ?_⟩
    exact ⟨_, rfl, _, rfl, _, _, rfl, rfl, q _⟩
/-! ### stages -/
def StgV (H : Hp) (v : V) : Prop := ∃ t, v = .ref t ∧ ((∃ c b, H t = some (.tup [.str "sift", .str c, .int b])) ∨ (∃ (kt : Addr) (ks : List PySem.Str), H t = some (.tup [.str "only", .ref kt]) ∧ H kt = some (.tup (ks.map V.str)) ∧ ks.length ≤ 4 ∧ ∀ k ∈ ks, PyData.strOk k = true) ∨
  (∃ f, H t = some (.tup [.str "scale", .int f]) ∧ -10 ≤ f ∧ f ≤ 10) ∨ (∃ n, H t = some (.tup [.str "rekey", .str n])) ∨ ∃ n, H t = some (.tup [.str "later", .int n]))
theorem StgV.mono {H H' : Hp} {v : V} (t : Tup H H') (h : StgV H v) : StgV H' v := by
  obtain ⟨a, e, ⟨c, b, h⟩ | ⟨kt, ks, h, h2, h3⟩ | ⟨f, h, h2⟩ | ⟨n, h⟩ | ⟨n, h⟩⟩ := h
  · exact ⟨a, e, .inl ⟨c, b, t _ _ h⟩⟩
  · exact ⟨a, e, .inr (.inl ⟨kt, ks, t _ _ h, t _ _ h2, h3⟩)⟩
  · exact ⟨a, e, .inr (.inr (.inl ⟨f, t _ _ h, h2⟩))⟩
  · exact ⟨a, e, .inr (.inr (.inr (.inl ⟨n, t _ _ h⟩)))⟩
  · exact ⟨a, e, .inr (.inr (.inr (.inr ⟨n, t _ _ h⟩)))⟩
def spStage : Sp := fun vs H Q _ => ∃ d s, vs = [.ref d] ∧ Draw H d s ∧ ∀ v H', SameX d H H' → Draw H' d s → StgV H' v → Q v H'
def lits : List PySem.Str := ["a", "ab", "b", "c"]
theorem lits_ok : ∀ k ∈ lits, PyData.strOk k = true := by
  intro k hk
  have : lits.all PyData.strOk = true := by decide +kernel
  exact List.all_eq_true.mp this k hk
theorem b_ok : ∀ k ∈ [Str.ofString "b"], PyData.strOk k = true := by
  intro k hk
  have : ([Str.ofString "b"]).all PyData.strOk = true := by decide +kernel
  exact List.all_eq_true.mp this k hk
theorem sc__law_stage : FnScope ["_law_draw_here", "_law_form", "_law_comparison", "_law_names", "_law_name"] ["_law_draw_here"] (defScope (topS 35)) := ⟨rfl, rfl, rfl, by decide +kernel, rfl, by decide +kernel, by decide +kernel⟩
theorem ok__law_stage (T : Txt K mg) : FnOk P w K mg base CX0 2 T.d__law_stage.f T.d__law_stage.fd ["_law_draw_here"] spStage := by
  refine T.d__law_stage.F.ok sc__law_stage (fun vs H Q E h => ?_) (fun cdv A outer s0 H vs Q E hr h => ?_)
  · obtain ⟨_, _, rfl, _⟩ := h
    rfl
  · obtain ⟨d, s, rfl, hd, q⟩ := h
    refine ⟨_, (pss_cons (ps_set (i := 1) sc__law_stage.nd rfl (Or.inl rfl) (pe_call (ok__law_next T) (hr.mono (by decide)) (by rfl) T.d__law_next.g T.d__law_next.F.kp T.d__law_next.b .nil pass0 (pa_cons (pv 0) (pa_cons pe_int pa_nil))))
      (pss_cons (ps_if (pt_cmpR op_lt (pv 1) pe_int (nomark _))
        (pss_cons (ps_set (i := 2) sc__law_stage.nd rfl (Or.inl rfl) (pe_ix (ixL K) (pe_lst (pa_cons pe_str (pa_cons pe_str (pa_cons pe_str (pa_cons pe_str (pa_cons pe_str (pa_cons pe_str (pa_cons pe_str pa_nil)))))))) (pe_call (ok__law_next T) (hr.mono (by decide)) (by rfl) T.d__law_next.g T.d__law_next.F.kp T.d__law_next.b .nil pass0 (pa_cons (pv 0) (pa_cons pe_int pa_nil))) (fun _ _ => rfl)))
        (pss_one (ps_ret (pe_tup (pa_cons pe_str (pa_cons (pv 2) (pa_cons (pe_op op_sub (pe_call (ok__law_next T) (hr.mono (by decide)) (by rfl) T.d__law_next.g T.d__law_next.F.kp T.d__law_next.b .nil pass0 (pa_cons (pv 0) (pa_cons pe_int pa_nil))) pe_int) pa_nil)))))))
        pss_nil)
      (pss_cons (ps_if (pt_cmpR op_eq (pv 1) pe_int (nomark _))
        (pss_cons (ps_set (i := 3) sc__law_stage.nd rfl (Or.inl rfl) (pe_lst pa_nil))
        (pss_cons (ps_for PassesOwn.never rfl (pi_list (pe_lst (pa_cons pe_str (pa_cons pe_str (pa_cons pe_str (pa_cons pe_str pa_nil)))))) (pg_name (i := 4) sc__law_stage.nd rfl (Or.inl rfl))
          (pss_one (ps_if (pt_cmpR op_gt (pe_call (ok__law_next T) (hr.mono (by decide)) (by rfl) T.d__law_next.g T.d__law_next.F.kp T.d__law_next.b .nil pass0 (pa_cons (pv 0) (pa_cons pe_int pa_nil))) pe_int (nomark _))
            (pss_one (ps_expr (pe_bm PySem.F.plainAttrs_list PySem.F.slot_list_append PySem.F.type_list_append mt_append (pv 3) (pa_cons (pv 4) pa_nil))))
            pss_nil)))
        (pss_one (ps_ret (pe_ifExp (pt_truth (pv 3) (by intro _; rfl)) (pe_tup (pa_cons pe_str (pa_cons (pe_callTy call_tuple_of (by rfl) T.z_tuple (by decide +kernel) (pa_cons (pv 3) pa_nil)) pa_nil))) (pe_tup (pa_cons pe_str (pa_cons (pe_tup (pa_cons pe_str pa_nil)) pa_nil))))))))
        pss_nil)
      (pss_cons (ps_if (pt_cmpR op_eq (pv 1) pe_int (nomark _))
        (pss_one (ps_ret (pe_tup (pa_cons pe_str (pa_cons (pe_ix (ixL K) (pe_lst (pa_cons (pe_un un_neg pe_int) (pa_cons (pe_un un_neg pe_int) (pa_cons (pe_un un_neg pe_int) (pa_cons pe_int (pa_cons pe_int (pa_cons pe_int (pa_cons pe_int pa_nil)))))))) (pe_call (ok__law_next T) (hr.mono (by decide)) (by rfl) T.d__law_next.g T.d__law_next.F.kp T.d__law_next.b .nil pass0 (pa_cons (pv 0) (pa_cons pe_int pa_nil))) (fun _ _ => rfl)) pa_nil)))))
        pss_nil)
      (pss_cons (ps_if (pt_cmpR op_eq (pe_call (ok__law_next T) (hr.mono (by decide)) (by rfl) T.d__law_next.g T.d__law_next.F.kp T.d__law_next.b .nil pass0 (pa_cons (pv 0) (pa_cons pe_int pa_nil))) pe_int (nomark _))
        (pss_one (ps_ret (pe_tup (pa_cons pe_str (pa_cons (pe_ix (ixL K) (pe_lst (pa_cons pe_str (pa_cons pe_str (pa_cons pe_str pa_nil)))) (pe_call (ok__law_next T) (hr.mono (by decide)) (by rfl) T.d__law_next.g T.d__law_next.F.kp T.d__law_next.b .nil pass0 (pa_cons (pv 0) (pa_cons pe_int pa_nil))) (fun _ _ => rfl)) pa_nil)))))
        pss_nil)
      (pss_one (ps_ret (pe_tup (pa_cons pe_str (pa_cons (pe_call (ok__law_next T) (hr.mono (by decide)) (by rfl) T.d__law_next.g T.d__law_next.F.kp T.d__law_next.b .nil pass0 (pa_cons (pv 0) (pa_cons pe_int pa_nil))) pa_nil)))))))))), ?_⟩
    refine ⟨_, rfl, d, s, 7, rfl, hd, by omega, by omega, fun n H1 n0 n1 s1 d1 => ?_⟩
    refine ⟨_, rfl, _, _, rfl, rfl, _, rfl, ite2 (fun _ => ?_) fun _ => ?_⟩
    · refine ⟨(by show 7 ≤ sizeLine; decide), fun l nl => ⟨_, rfl, d, s, 7, rfl, d1.mono (same_new nl), by omega, by omega, fun n2 H2 a0 a1 s2 d2 => ?_⟩⟩
      have hl := s2 l _ (draw_ne d1 nl) upd_same
      obtain ⟨c, _, hc⟩ := pick ([Str.ofString "<", Str.ofString "<=", Str.ofString "=", Str.ofString "!=", Str.ofString ">=", Str.ofString ">", Str.ofString "!="]) V.str a0 a1
      refine ⟨l, _, n2, _, rfl, rfl, SqL.of hl, hc, ?_⟩
      refine ⟨_, rfl, _, rfl, d, s, 13, rfl, d2, by omega, by omega, fun n3 H3 _ _ s3 d3 => ⟨_, _, rfl, rfl, (by show 3 ≤ sizeLine; decide), fun t nt => ?_⟩⟩
      exact q _ _ (s1.trans ((sameX_of (same_new nl)).trans (s2.trans (s3.trans (sameX_of (same_new nt)))))) (d3.mono (same_new nt)) ⟨t, rfl, .inl ⟨_, _, upd_same⟩⟩
    refine ⟨_, rfl, rfl, _, rfl, ite2 (fun _ => ?_) fun _ => ?_⟩
    · refine ⟨(by show 0 ≤ sizeLine; decide), fun nm nn => ?_⟩
      refine ⟨(by show 4 ≤ sizeLine; decide), fun l nl => ⟨l, rfl, ⟨_, SqL.of upd_same⟩, ?_⟩⟩
      have nmd := draw_ne d1 nn
      have t1 := (same_new (o := .lst []) nn).trans (same_new (o := .lst (lits.map V.str)) nl)
      have lnm : nm ≠ l := ne_of_none (upd_same (o := .lst [])) nl
      refine for_list (xs := lits.map V.str) (fun i σ' H' => ∃ x1 x2 x4 ks, σ' = [some (.ref d), x1, x2, some (.ref nm), x4] ∧ SameX d H1 H' ∧ Draw H' d s ∧ H' l = some (.lst (lits.map V.str)) ∧ H' nm = some (.lst (ks.map V.str)) ∧ ks.length ≤ i ∧ ∀ k ∈ ks, k ∈ lits)
        ⟨_, _, _, [], rfl, sameX_of t1, d1.mono t1, upd_same, by rw [upd_ne lnm]; exact upd_same, Nat.le_refl _, fun k hk => by simp at hk⟩ (fun i σ' H' _ n => ?_) (fun i x σ' H' hx n => ?_) fun σ' H' n => ?_
      · obtain ⟨_, _, _, _, _, _, _, h, _⟩ := n
        exact SqL.of h
      · obtain ⟨x1, x2, x4, ks, rfl, sx, dx, hl, hn, hk, hm⟩ := n
        have hi : i < 4 := by
          have := (List.getElem?_eq_some_iff.mp hx).1
          rwa [List.length_map] at this
        rw [List.getElem?_map] at hx
        obtain ⟨k, hkk, rfl⟩ := Option.map_eq_some_iff.mp hx
        refine ⟨_, rfl, d, s, 4, rfl, dx, by omega, by omega, fun n2 H2 _ _ s2 d2 => ⟨_, _, rfl, rfl, _, rfl, ite2 (fun _ => ?_) fun _ => ?_⟩⟩
        · have hn2 := s2 nm _ nmd hn
          refine ⟨_, rfl, .inl ⟨rfl, _, SqL.of hn2⟩, _, rfl, nm, _, _, rfl, rfl, hn2, small1000 (by rw [List.length_map]; omega), ?_⟩
          refine ⟨_, _, _, ks ++ [k], rfl, ?_, d2.put nmd (d1.new nn).2, ?_, ?_, ?_, fun k' hk' => ?_⟩
          · refine fun b o nb e => ?_
            rw [upd_ne (ne_of_none e nn)]
            exact (sx.trans s2) b o nb e
          · rw [upd_ne lnm.symm]
            exact s2 l _ (fun z => by obtain ⟨_, _, _, _, h, _⟩ := dx; rw [← z, hl] at h; cases h) hl
          · rw [upd_same, List.map_append]
            rfl
          · rw [List.length_append]
            exact Nat.succ_le_succ hk
          · rcases List.mem_append.mp hk' with z | z
            · exact hm k' z
            · rw [List.mem_singleton.mp z]
              exact List.mem_of_getElem? hkk
        · exact ⟨_, _, _, ks, rfl, sx.trans s2, d2, s2 l _ (fun z => by obtain ⟨_, _, _, _, h, _⟩ := dx; rw [← z, hl] at h; cases h) hl, s2 nm _ nmd hn, by omega, hm⟩
      · obtain ⟨x1, x2, x4, ks, rfl, sx, dx, hl, hn, hk, hm⟩ := n
        refine ⟨_, rfl, _, .inl ⟨_, SqL.of hn, rfl⟩, ite2 (fun _ => ?_) fun _ => ?_⟩
        · refine ⟨_, rfl, nm, _, rfl, .inl ⟨SqL.of hn, fun kt nkt => ⟨(by show 2 ≤ sizeLine; decide), fun t nt => ?_⟩⟩⟩
          have s4 := (same_new (o := .tup (ks.map V.str)) nkt).trans (same_new (o := .tup [.str "only", .ref kt]) nt)
          exact q _ _ (s1.trans (sx.trans (sameX_of s4))) (dx.mono s4) ⟨t, rfl, .inr (.inl ⟨kt, ks, upd_same, same_new nt _ _ upd_same, hk, fun k h => lits_ok k (hm k h)⟩)⟩
        · refine ⟨(by show 1 ≤ sizeLine; decide), fun kt nkt => ⟨(by show 2 ≤ sizeLine; decide), fun t nt => ?_⟩⟩
          have s4 := (same_new (o := .tup [.str "b"]) nkt).trans (same_new (o := .tup [.str "only", .ref kt]) nt)
          exact q _ _ (s1.trans (sx.trans (sameX_of s4))) (dx.mono s4) ⟨t, rfl, .inr (.inl ⟨kt, ["b"], upd_same, same_new nt _ _ upd_same, by decide, b_ok⟩)⟩
    refine ⟨_, rfl, rfl, _, rfl, ite2 (fun _ => ?_) fun _ => ?_⟩
    · refine ⟨_, rfl, _, rfl, _, rfl, (by show 7 ≤ sizeLine; decide), fun l nl => ⟨_, rfl, d, s, 7, rfl, d1.mono (same_new nl), by omega, by omega, fun n2 H2 a0 a1 s2 d2 => ?_⟩⟩
      have hl := s2 l _ (draw_ne d1 nl) upd_same
      obtain ⟨c, hm, hc⟩ := pick [(-3 : Int), -2, -1, 0, 1, 2, 0] V.int a0 a1
      refine ⟨l, _, n2, _, rfl, rfl, SqL.of hl, hc, (by show 2 ≤ sizeLine; decide), fun t nt => ?_⟩
      have cb : -10 ≤ c ∧ c ≤ 10 := by
        simp only [List.mem_cons, List.not_mem_nil, or_false] at hm
        omega
      exact q _ _ (s1.trans ((sameX_of (same_new nl)).trans (s2.trans (sameX_of (same_new nt))))) (d2.mono (same_new nt)) ⟨t, rfl, .inr (.inr (.inl ⟨c, upd_same, cb⟩))⟩
    refine ⟨_, rfl, d, s, 2, rfl, d1, by omega, by omega, fun n2 H2 a0 a1 s2 d2 => ⟨rfl, _, rfl, ite2 (fun _ => ?_) fun _ => ?_⟩⟩
    · refine ⟨(by show 3 ≤ sizeLine; decide), fun l nl => ⟨_, rfl, d, s, 3, rfl, d2.mono (same_new nl), by omega, by omega, fun n3 H3 b0 b1 s3 d3 => ?_⟩⟩
      have hl := s3 l _ (draw_ne d2 nl) upd_same
      obtain ⟨c, hm, hc⟩ := pick ([Str.ofString "a", Str.ofString "b", Str.ofString "z"]) V.str b0 b1
      refine ⟨l, _, n3, _, rfl, rfl, SqL.of hl, hc, (by show 2 ≤ sizeLine; decide), fun t nt => ?_⟩
      exact q _ _ (s1.trans (s2.trans ((sameX_of (same_new nl)).trans (s3.trans (sameX_of (same_new nt)))))) (d3.mono (same_new nt)) ⟨t, rfl, .inr (.inr (.inr (.inl ⟨c, upd_same⟩)))⟩
    · refine ⟨_, rfl, d, s, 5, rfl, d2, by omega, by omega, fun n3 H3 b0 b1 s3 d3 => ⟨(by show 2 ≤ sizeLine; decide), fun t nt => ?_⟩⟩
      exact q _ _ (s1.trans (s2.trans (s3.trans (sameX_of (same_new nt))))) (d3.mono (same_new nt)) ⟨t, rfl, .inr (.inr (.inr (.inr ⟨_, upd_same⟩)))⟩
end
end L2.K21
namespace L2.K21
open PySem PySem.Spec PyProof.Rows
open TdS (RowA ltR SortedOf)
section
variable {P : Program} {w : World} {K : PySem.W.Frag} {mg : PySem.Str → Option Value} {base : Heap}
def StgsV (H : Hp) (v : V) : Prop := ∃ a ys, v = .ref a ∧ H a = some (.lst ys) ∧ (∀ y ∈ ys, StgV H y) ∧ ys.length ≤ 100
theorem StgsV.mono {H H' : Hp} {v : V} (t : Same H H') (h : StgsV H v) : StgsV H' v := by
  obtain ⟨a, ys, e, h1, h2, h3⟩ := h
  exact ⟨a, ys, e, t _ _ h1, fun y hy => (h2 y hy).mono (tup_of t), h3⟩
def spStages : Sp := fun vs H Q _ => ∃ d s m, vs = [.ref d, .int m] ∧ Draw H d s ∧ 0 ≤ m ∧ m ≤ 99 ∧ ∀ v H', SameX d H H' → Draw H' d s → StgsV H' v → Q v H'
theorem sc__law_stages : FnScope ["_law_draw_here", "_law_most", "_law_k"] ["_law_draw_here", "_law_most"] (defScope (topS 36)) := ⟨rfl, rfl, rfl, by decide +kernel, rfl, by decide +kernel, by decide +kernel⟩
theorem ok__law_stages (T : Txt K mg) : FnOk P w K mg base CX0 3 T.d__law_stages.f T.d__law_stages.fd ["_law_draw_here", "_law_most"] spStages := by
  refine T.d__law_stages.F.ok sc__law_stages (fun vs H Q E h => ?_) (fun cdv A outer s0 H vs Q E hr h => ?_)
  · obtain ⟨_, _, _, rfl, _⟩ := h
    rfl
  · obtain ⟨d, s, m, rfl, hd, m0, m1, q⟩ := h
    refine ⟨_, (pss_one (ps_ret (pe_lc (own := [("_law_k", 2)]) (by rfl) sc__law_stages.nd (pi_range1 (by rfl) T.z_range (pa_cons (pe_call (ok__law_next T) (hr.mono (by decide)) (by rfl) T.d__law_next.g T.d__law_next.F.kp T.d__law_next.b .nil pass0 (pa_cons (pv 0) (pa_cons (pe_op op_add (pv 1) pe_int) pa_nil))) pa_nil)) (blkOk_by (own := [("_law_k", 2)]) (N := ["_law_draw_here", "_law_most", "_law_k"]) (sc := defScope (topS 36)) (by decide +kernel)) (fun _ _ _ _ _ => (pg_name (i := 2) sc__law_stages.nd rfl (Or.inl rfl))) (fun _ _ _ _ _ => pts_nil) (fun _ _ _ _ _ => (pe_call (ok__law_stage T) (hr.mono (by decide)) (by rfl) T.d__law_stage.g T.d__law_stage.F.kp T.d__law_stage.b .nil pass0 (pa_cons (pv 0) pa_nil)))))), ?_⟩
    refine ⟨_, rfl, _, rfl, _, _, rfl, rfl, d, s, m + 1, rfl, hd, by omega, by omega, fun n H1 n0 n1 s1 d1 => ⟨n, rfl, by omega, by omega, fun D nD => ?_⟩⟩
    have Dn := d1.new nD
    refine lc_range (fun i H' => SameX d H1 H' ∧ Draw H' d s ∧ ∃ ys, H' D = some (.lst ys) ∧ (∀ y ∈ ys, StgV H' y) ∧ ys.length ≤ i) ⟨sameX_of (same_new nD), d1.mono (same_new nD), [], upd_same, fun y hy => by simp at hy, Nat.le_refl _⟩ (fun i H' hi p => ?_) fun H' p => ?_
    · obtain ⟨sx, dx, ys, hy, hs, hl⟩ := p
      refine ⟨rfl, _, rfl, d, s, rfl, dx, fun v H2 s2 d2 st => ?_⟩
      have hy2 := s2 D _ Dn.1 hy
      have tu : Tup H2 (upd H2 D (.lst (ys ++ [v]))) := tup_lst hy2
      refine ⟨ys, hy2, small1000 (by omega), fun b o nb e => ?_, d2.put Dn.1 Dn.2, ys ++ [v], upd_same, fun y hy' => ?_, ?_⟩
      · rw [upd_ne (ne_of_none e nD)]
        exact (sx.trans s2) b o nb e
      · rcases List.mem_append.mp hy' with z | z
        · exact (hs y z).mono ((tupX dx s2).trans tu)
        · rw [List.mem_singleton.mp z]
          exact st.mono tu
      · rw [List.length_append]
        exact Nat.succ_le_succ hl
    · obtain ⟨sx, dx, ys, hy, hs, hl⟩ := p
      exact q _ _ (s1.trans sx) dx ⟨D, ys, rfl, hy, hs, by omega⟩
def spValue : Sp := fun vs H Q _ => ∃ v x, vs = [v, .int x] ∧ StgsV H v ∧ Q .non H ∧ ∀ i, Q (.int i) H
theorem sc__law_value : FnScope ["_law_stages_here", "_law_value_here", "_law_found", "_law_stage_here"] ["_law_stages_here", "_law_value_here"] (defScope (topS 37)) := ⟨rfl, rfl, rfl, by decide +kernel, rfl, by decide +kernel, by decide +kernel⟩
theorem ok__law_value (T : Txt K mg) : FnOk P w K mg base CX0 2 T.d__law_value.f T.d__law_value.fd ["_law_stages_here", "_law_value_here"] spValue := by
  refine T.d__law_value.F.ok sc__law_value (fun vs H Q E h => ?_) (fun cdv A outer s0 H vs Q E hr h => ?_)
  · obtain ⟨_, _, rfl, _⟩ := h
    rfl
  · obtain ⟨v, x, rfl, ⟨a, ys, rfl, ha, hs, hl⟩, q0, q1⟩ := h
    refine ⟨_, (pss_cons (ps_set (i := 2) sc__law_value.nd rfl (Or.inl rfl) (pv 1))
      (pss_cons (ps_for PassesOwn.never rfl (pi_list (pv 0)) (pg_name (i := 3) sc__law_value.nd rfl (Or.inl rfl))
        (pss_cons (ps_if (PW.pt (pw_and (pt_cmpR op_eq (pe_ix (ixT K) (pv 3) pe_int (fun _ _ => rfl)) pe_str (nomark _)) (pw_and1 (pt_not (pt_val (pe_call (ok__law_passes T) (hr.mono (by decide)) (by rfl) T.d__law_passes.g T.d__law_passes.F.kp T.d__law_passes.b .nil pass0 (pa_cons (pe_ix (ixT K) (pv 3) pe_int (fun _ _ => rfl)) (pa_cons (pv 2) (pa_cons (pe_ix (ixT K) (pv 3) pe_int (fun _ _ => rfl)) pa_nil)))))))))
          (pss_one (ps_ret pe_non))
          pss_nil)
        (pss_one (ps_if (pt_cmpR op_eq (pe_ix (ixT K) (pv 3) pe_int (fun _ _ => rfl)) pe_str (nomark _))
          (pss_one (ps_set (i := 2) sc__law_value.nd rfl (Or.inl rfl) (pe_op op_mul (pv 2) (pe_ix (ixT K) (pv 3) pe_int (fun _ _ => rfl)))))
          pss_nil))))
      (pss_one (ps_ret (pv 2))))), ?_⟩
    refine ⟨_, rfl, _, rfl, a, rfl, ⟨_, SqL.of ha⟩, ?_⟩
    refine for_list (xs := ys) (fun i σ' H' => ∃ z x3, σ' = [some (.ref a), some (.int x), some (.int z), x3] ∧ H' = H) ⟨x, _, rfl, rfl⟩ (fun i σ' H' _ n => ?_) (fun i y σ' H' hy n => ?_) fun σ' H' n => ?_
    · obtain ⟨_, _, _, rfl⟩ := n
      exact SqL.of ha
    · obtain ⟨z, x3, rfl, rfl⟩ := n
      obtain ⟨t, rfl, k⟩ := hs y (List.mem_of_getElem? hy)
      rcases k with ⟨c, b, h⟩ | ⟨kt, ks, h, _⟩ | ⟨f, h, f0, f1⟩ | ⟨n, h⟩ | ⟨n, h⟩
      · refine ⟨_, rfl, _, _, _, _, rfl, rfl, SqT.of h, rfl, rfl, _, rfl, iteT ?_⟩
        refine ⟨_, rfl, _, _, _, _, rfl, rfl, SqT.of h, rfl, _, rfl, _, rfl, _, _, _, _, rfl, rfl, SqT.of h, rfl, c, z, b, rfl, fun k => ⟨k, rfl, ?_⟩⟩
        cases k with
        | true => exact iteF ⟨_, rfl, _, _, _, _, rfl, rfl, SqT.of h, rfl, rfl, _, rfl, iteF ⟨z, _, rfl, rfl⟩⟩
        | false => exact iteT q0
      · exact ⟨_, rfl, _, _, _, _, rfl, rfl, SqT.of h, rfl, rfl, _, rfl, iteF (iteF ⟨_, rfl, _, _, _, _, rfl, rfl, SqT.of h, rfl, rfl, _, rfl, iteF ⟨z, _, rfl, rfl⟩⟩)⟩
      · refine ⟨_, rfl, _, _, _, _, rfl, rfl, SqT.of h, rfl, rfl, _, rfl, iteF (iteF ⟨_, rfl, _, _, _, _, rfl, rfl, SqT.of h, rfl, rfl, _, rfl, iteT ?_⟩)⟩
        exact ⟨_, rfl, _, rfl, _, _, _, _, rfl, rfl, SqT.of h, rfl, _, _, rfl, rfl, .inr ⟨by omega, by omega⟩, z * f, _, rfl, rfl⟩
      · exact ⟨_, rfl, _, _, _, _, rfl, rfl, SqT.of h, rfl, rfl, _, rfl, iteF (iteF ⟨_, rfl, _, _, _, _, rfl, rfl, SqT.of h, rfl, rfl, _, rfl, iteF ⟨z, _, rfl, rfl⟩⟩)⟩
      · exact ⟨_, rfl, _, _, _, _, rfl, rfl, SqT.of h, rfl, rfl, _, rfl, iteF (iteF ⟨_, rfl, _, _, _, _, rfl, rfl, SqT.of h, rfl, rfl, _, rfl, iteF ⟨z, _, rfl, rfl⟩⟩)⟩
    · obtain ⟨z, x3, rfl, rfl⟩ := n
      exact ⟨_, rfl, q1 z⟩
/-! ### the keys that are shown -/
def StrV (_ : Hp) (v : V) (k : PySem.Str) : Prop := v = .str k
theorem pair_strs {H : Hp} : ∀ l : List PySem.Str, Paired (StrV H) (l.map V.str) l
  | [] => .nil
  | _ :: l => .cons rfl (pair_strs l)
theorem strs_pair {H : Hp} : ∀ {ys : List V} {l : List PySem.Str}, Paired (StrV H) ys l → ys = l.map V.str
  | _, _, .nil => rfl
  | _, _, .cons (a := v) (b := i) h t => by
    rw [strs_pair t, show v = .str i from h]
    rfl
theorem StrV.mono {H H' : Hp} {v : V} {i : PySem.Str} (_ : Tup H H') (h : StrV H v i) : StrV H' v i := h
def KeysOk (ko : Option (List PySem.Str)) : Prop := ∀ ks, ko = some ks → ks.length ≤ 4 ∧ ∀ k ∈ ks, PyData.strOk k = true
def spKeysShown : Sp := fun vs H Q _ => ∃ v, vs = [v] ∧ StgsV H v ∧ ∀ kv ko H', Same H H' → KeysV H' kv ko → KeysOk ko → Q kv H'
theorem sc__law_keys_shown : FnScope ["_law_stages_here", "_law_keys", "_law_name", "_law_stage_here", "_law_key"] ["_law_stages_here"] (defScope (topS 38)) := ⟨rfl, rfl, rfl, by decide +kernel, rfl, by decide +kernel, by decide +kernel⟩
theorem ok__law_keys_shown (T : Txt K mg) : FnOk P w K mg base CX0 1 T.d__law_keys_shown.f T.d__law_keys_shown.fd ["_law_stages_here"] spKeysShown := by
  refine T.d__law_keys_shown.F.ok sc__law_keys_shown (fun vs H Q E h => ?_) (fun cdv A outer s0 H vs Q E hr h => ?_)
  · obtain ⟨_, rfl, _⟩ := h
    rfl
  · obtain ⟨v, rfl, ⟨a, ys, rfl, ha, hs, hl⟩, q⟩ := h
    refine ⟨_, (pss_cons (ps_set (i := 1) sc__law_keys_shown.nd rfl (Or.inl rfl) pe_non)
      (pss_cons (ps_set (i := 2) sc__law_keys_shown.nd rfl (Or.inl rfl) pe_non)
      (pss_cons (ps_for PassesOwn.never rfl (pi_list (pv 0)) (pg_name (i := 3) sc__law_keys_shown.nd rfl (Or.inr rfl))
        (pss_cons (ps_if (pt_cmpR op_eq (pe_ix (ixT K) (pv 3) pe_int (fun _ _ => rfl)) pe_str (nomark _))
          (pss_one (ps_set (i := 2) sc__law_keys_shown.nd rfl (Or.inl rfl) (pe_ix (ixT K) (pv 3) pe_int (fun _ _ => rfl))))
          pss_nil)
        (pss_cons (ps_if (PW.pt (pw_and (pt_cmpR op_eq (pe_ix (ixT K) (pv 3) pe_int (fun _ _ => rfl)) pe_str (nomark _)) (pw_and (pt_cmpR op_notN (pv 2) pe_non (nomark _)) (pw_and1 (pt_cmpR (notInSeq K) (pv 2) (pe_ix (ixT K) (pv 3) pe_int (fun _ _ => rfl)) (by rfl))))))
          (pss_one (ps_ret (pe_tup pa_nil)))
          pss_nil)
        (pss_one (ps_if (PW.pt (pw_and (pt_cmpR op_eq (pe_ix (ixT K) (pv 3) pe_int (fun _ _ => rfl)) pe_str (nomark _)) (pw_and1 (pt_cmpR op_isN (pv 2) pe_non (nomark _)))))
          (pss_one (ps_set (i := 1) sc__law_keys_shown.nd rfl (Or.inl rfl) (pe_ifExp (pt_cmpR op_isN (pv 1) pe_non (nomark _)) (pe_ix (ixT K) (pv 3) pe_int (fun _ _ => rfl)) (pe_callTy call_tuple_of (by rfl) T.z_tuple (by decide +kernel) (pa_cons (pe_lc (own := [("_law_key", 4)]) (by rfl) sc__law_keys_shown.nd (pi_tup (pv 1)) (blkOk_by (own := [("_law_key", 4)]) (N := ["_law_stages_here", "_law_keys", "_law_name", "_law_stage_here", "_law_key"]) (sc := defScope (topS 38)) (by decide +kernel)) (fun _ _ _ _ _ => (pg_name (i := 4) sc__law_keys_shown.nd rfl (Or.inl rfl))) (fun _ _ _ _ _ => pts_one (pt_cmpR (inSeq K) (pv 4) (pe_ix (ixT K) (pv 3) pe_int (fun _ _ => rfl)) (by rfl))) (fun _ _ _ _ _ => (pv 4))) pa_nil)))))
          pss_nil)))))
      (pss_one (ps_ret (pv 1)))))), ?_⟩
    refine ⟨_, rfl, a, rfl, ⟨_, SqL.of ha⟩, ?_⟩
    refine for_list (xs := ys) (fun i σ' H' => ∃ kv ko nv x3 x4, σ' = [some (.ref a), some kv, some nv, x3, x4] ∧ Same H H' ∧ KeysV H' kv ko ∧ KeysOk ko ∧ (nv = .non ∨ ∃ n, nv = .str n)) ⟨_, none, _, _, _, rfl, Same.refl _, rfl, (fun ks e => by cases e), .inl rfl⟩ (fun i σ' H' _ n => ?_) (fun i y σ' H' hy n => ?_) fun σ' H' n => ?_
    · obtain ⟨_, _, _, _, _, _, sm, _⟩ := n
      exact SqL.of (sm _ _ ha)
    · obtain ⟨kv, ko, nv, x3, x4, rfl, sm, hk, ok, hnv⟩ := n
      obtain ⟨t, rfl, k⟩ := (hs y (List.mem_of_getElem? hy)).mono (tup_of sm)
      rcases k with ⟨c, b, h⟩ | ⟨kt, ks, h, hkt, k4, kok⟩ | ⟨f, h, f0, f1⟩ | ⟨n, h⟩ | ⟨n, h⟩
      · exact ⟨_, rfl, _, _, _, _, rfl, rfl, SqT.of h, rfl, rfl, _, rfl, iteF ⟨_, rfl, _, _, _, _, rfl, rfl, SqT.of h, rfl, rfl, _, rfl, iteF (iteF ⟨_, rfl, _, _, _, _, rfl, rfl, SqT.of h, rfl, rfl, _, rfl, iteF (iteF ⟨kv, ko, nv, _, _, rfl, sm, hk, ok, hnv⟩)⟩)⟩⟩
      · refine ⟨_, rfl, _, _, _, _, rfl, rfl, SqT.of h, rfl, rfl, _, rfl, iteF ?_⟩
        refine ⟨_, rfl, _, _, _, _, rfl, rfl, SqT.of h, rfl, rfl, _, rfl, iteT ?_⟩
        rcases hnv with rfl | ⟨n, rfl⟩
        · refine ⟨_, rfl, rfl, _, rfl, iteF (iteF ?_)⟩
          refine ⟨_, rfl, _, _, _, _, rfl, rfl, SqT.of h, rfl, rfl, _, rfl, iteT ⟨_, rfl, rfl, _, rfl, iteT ?_⟩⟩
          cases ko with
          | none =>
            cases (show kv = .non from hk)
            exact ⟨_, rfl, rfl, _, rfl, iteT ⟨_, rfl, _, _, _, _, rfl, rfl, SqT.of h, rfl, .ref kt, some ks, .non, _, _, rfl, sm, ⟨kt, rfl, hkt⟩, (fun ks' e => by cases e; exact ⟨k4, kok⟩), .inl rfl⟩⟩
          | some ks0 =>
            obtain ⟨ka, rfl, hka⟩ := hk
            obtain ⟨o1, o2⟩ := ok ks0 rfl
            refine ⟨_, rfl, rfl, _, rfl, iteF ⟨_, rfl, ka, rfl, ⟨_, SqT.of hka⟩, fun D nD => ?_⟩⟩
            refine lc_fmT (F := StrV) (G := StrV) (fun k => if (ks.any fun x => x == k) = true then some k else none) nD (SqT.of hka) (pair_strs _) (fun _ _ _ _ => StrV.mono) (fun _ _ _ _ => StrV.mono) (small1000 (by omega)) (fun k z H1 R R' _ fx s1 r1 r2 => ?_) fun H1 zs s1 hz pz => ?_
            · cases (show z = .str k from fx)
              refine ⟨rfl, _, rfl, _, rfl, _, _, _, _, rfl, rfl, SqT.of (s1 _ _ h), rfl, kt, _, rfl, .inr (SqT.of (s1 _ _ hkt)), rfl, flat_strs ks, ?_⟩
              show ∃ k1, V.bl (inV (.str k) (ks.map V.str)) = .bl k1 ∧ _
              rw [in_strs]
              refine ⟨_, rfl, ite2 (fun e => ?_) fun e => ?_⟩
              · exact ⟨_, rfl, r1 _ k _ (if_pos e) (Same.refl _) rfl⟩
              · exact r2 _ (if_neg e) (Same.refl _)
            · rw [fm_filter] at pz
              have e := strs_pair pz
              subst e
              refine ⟨D, _, rfl, .inl ⟨SqL.of hz, fun l nl => ?_⟩⟩
              refine ⟨.ref l, some (ks0.filter fun k => ks.any fun x => x == k), .non, _, _, rfl, sm.trans (s1.trans (same_new nl)), ⟨l, rfl, upd_same⟩, fun ks' e => ?_, .inl rfl⟩
              cases e
              exact ⟨Nat.le_trans (List.length_filter_le ..) o1, fun k hk => o2 k (List.mem_filter.mp hk).1⟩
        · refine ⟨_, rfl, rfl, _, rfl, iteT ?_⟩
          refine ⟨_, rfl, _, rfl, _, _, _, _, rfl, rfl, SqT.of h, rfl, kt, _, rfl, .inr (SqT.of hkt), rfl, flat_strs ks, _, rfl, ite2 (fun _ => ?_) fun _ => ?_⟩
          · exact ⟨(by show 0 ≤ sizeLine; decide), fun p np => q _ (some []) _ (sm.trans (same_new np)) ⟨p, rfl, upd_same⟩ fun ks e => by cases e; exact ⟨by decide, fun k hk => by simp at hk⟩⟩
          · exact ⟨_, rfl, _, _, _, _, rfl, rfl, SqT.of h, rfl, rfl, _, rfl, iteT ⟨_, rfl, rfl, _, rfl, iteF ⟨kv, ko, _, _, _, rfl, sm, hk, ok, .inr ⟨n, rfl⟩⟩⟩⟩
      · exact ⟨_, rfl, _, _, _, _, rfl, rfl, SqT.of h, rfl, rfl, _, rfl, iteF ⟨_, rfl, _, _, _, _, rfl, rfl, SqT.of h, rfl, rfl, _, rfl, iteF (iteF ⟨_, rfl, _, _, _, _, rfl, rfl, SqT.of h, rfl, rfl, _, rfl, iteF (iteF ⟨kv, ko, nv, _, _, rfl, sm, hk, ok, hnv⟩)⟩)⟩⟩
      · refine ⟨_, rfl, _, _, _, _, rfl, rfl, SqT.of h, rfl, rfl, _, rfl, iteT ⟨_, rfl, _, _, _, _, rfl, rfl, SqT.of h, rfl, ?_⟩⟩
        exact ⟨_, rfl, _, _, _, _, rfl, rfl, SqT.of h, rfl, rfl, _, rfl, iteF (iteF ⟨_, rfl, _, _, _, _, rfl, rfl, SqT.of h, rfl, rfl, _, rfl, iteF (iteF ⟨kv, ko, .str n, _, _, rfl, sm, hk, ok, .inr ⟨n, rfl⟩⟩)⟩)⟩
      · exact ⟨_, rfl, _, _, _, _, rfl, rfl, SqT.of h, rfl, rfl, _, rfl, iteF ⟨_, rfl, _, _, _, _, rfl, rfl, SqT.of h, rfl, rfl, _, rfl, iteF (iteF ⟨_, rfl, _, _, _, _, rfl, rfl, SqT.of h, rfl, rfl, _, rfl, iteF (iteF ⟨kv, ko, nv, _, _, rfl, sm, hk, ok, hnv⟩)⟩)⟩⟩
    · obtain ⟨kv, ko, nv, x3, x4, rfl, sm, hk, ok, _⟩ := n
      exact ⟨_, rfl, q kv ko _ sm hk ok⟩
theorem sc__law_seen : FnScope ["_law_show_here", "_law_key"] ["_law_show_here", "_law_key"] (defScope (topS 43)) := ⟨rfl, rfl, rfl, by decide +kernel, rfl, by decide +kernel, by decide +kernel⟩
theorem ok__law_seen (T : Txt K mg) : FnOk P w K mg base CX0 1 T.d__law_seen.f T.d__law_seen.fd ["_law_show_here", "_law_key"] spShowsKey := by
  refine T.d__law_seen.F.ok sc__law_seen (fun vs H Q E h => ?_) (fun cdv A outer s H vs Q E hr h => ?_)
  · obtain ⟨v, l, m, rfl, _⟩ := h
    rfl
  · obtain ⟨v, s, k, rfl, hs, q⟩ := h
    refine ⟨_, (pss_one (ps_ret (pe_and (pe_cmpR op_notN (pv 0) pe_non (nomark _)) (pe_one (pe_or (pe_cmpR op_isN (pe_ix (ixT K) (pv 0) pe_int (fun _ _ => rfl)) pe_non (nomark _)) (pe_one (pe_cmpR (inSeq K) (pv 1) (pe_ix (ixT K) (pv 0) pe_int (fun _ _ => rfl)) (by rfl)))))))), ?_⟩
    cases s with
    | none =>
      cases (show v = .non from hs)
      exact ⟨_, rfl, rfl, _, rfl, iteF q⟩
    | some s =>
      obtain ⟨a, kv, ho, nv, rfl, h1, hk, h3⟩ := (show ShowV H v s from hs)
      refine ⟨_, rfl, rfl, _, rfl, iteT ?_⟩
      refine ⟨_, rfl, _, _, _, _, rfl, rfl, SqT.of h1, rfl, rfl, _, rfl, ?_⟩
      have e : seenO (some s) k = match s.keys with
        | none => true
        | some ks => ks.any fun x => x == k := rfl
      rw [e] at q
      cases hks : s.keys with
      | none =>
        rw [hks] at hk q
        cases (show kv = .non from hk)
        exact iteT q
      | some ks =>
        rw [hks] at hk q
        obtain ⟨b, rfl, hb⟩ := hk
        refine iteF ⟨_, rfl, _, rfl, _, _, _, _, rfl, rfl, SqT.of h1, rfl, _, _, rfl, .inr (SqT.of hb), rfl, flat_strs ks, ?_⟩
        show Q (.bl (inV (.str k) (ks.map V.str))) H
        rw [in_strs]
        exact q
theorem sc__law_for : FnScope ["_law_show_here", "_law_changes_here", "_law_row", "_law_count"] ["_law_show_here", "_law_changes_here"] (defScope (topS 50)) := ⟨rfl, rfl, rfl, by decide +kernel, rfl, by decide +kernel, by decide +kernel⟩
theorem ok__law_for (T : Txt K mg) : FnOk P w K mg base CX0 2 T.d__law_for.f T.d__law_for.fd ["_law_show_here", "_law_changes_here"] spSeen := by
  refine T.d__law_for.F.ok sc__law_for (fun vs H Q E h => ?_) (fun cdv A outer s H vs Q E hr h => ?_)
  · obtain ⟨v, u, l, m, rfl, _⟩ := h
    rfl
  · obtain ⟨v, u, s, l, rfl, hs, ⟨a, xs, rfl, ha, hp⟩, hl, q⟩ := h
    refine ⟨_, (pss_one (ps_ret (pe_lc (own := [("_law_row", 2), ("_law_count", 3)]) (by rfl) sc__law_for.nd (pi_list (pv 1)) (blkOk_by (own := [("_law_row", 2), ("_law_count", 3)]) (N := ["_law_show_here", "_law_changes_here", "_law_row", "_law_count"]) (sc := defScope (topS 50)) (by decide +kernel)) (fun _ _ _ _ _ => (pgTup K 2 rfl (pgs_cons (pg_name (i := 2) sc__law_for.nd rfl (Or.inl rfl)) (pgs_cons (pg_name (i := 3) sc__law_for.nd rfl (Or.inl rfl)) pgs_nil)))) (fun _ _ _ _ _ => pts_one (pt_val (pe_call (ok__law_seen T) (hr.mono (by decide)) (by rfl) T.d__law_seen.g T.d__law_seen.F.kp T.d__law_seen.b .nil pass0 (pa_cons (pv 0) (pa_cons (pe_ix (ixT K) (pv 2) pe_int (fun _ _ => rfl)) pa_nil))))) (fun _ _ _ _ _ => (pe_tup (pa_cons (pv 2) (pa_cons (pv 3) pa_nil))))))), ?_⟩
    refine ⟨.ref a, rfl, a, rfl, ⟨_, SqL.of ha⟩, fun D nD => ?_⟩
    refine lc_fm (F := PairV) (G := PairV) (fun p : Row × Int => if seenO s p.1.2.1 = true then some p else none) nD (SqL.of ha) hp (fun _ _ _ _ => PairV.mono) (fun _ _ _ _ => PairV.mono) (small1000 hl) (fun y x H1 R R' _ fx sm h1 h2 => ?_) fun H1 ys sm hy py => ?_
    · obtain ⟨b, c, rfl, hb, hc⟩ := fx
      refine ⟨b, _, rfl, SqT.of hb, rfl, _, _, rfl, _, _, rfl, rfl, rfl, ?_⟩
      refine ⟨_, rfl, _, rfl, _, _, _, _, rfl, rfl, SqT.of hc, rfl, v, s, y.1.2.1, rfl, hs.mono (tup_of sm), _, rfl, ite2 (fun e => ?_) fun e => ?_⟩
      · refine ⟨_, rfl, _, rfl, (by show 2 ≤ sizeLine; decide), fun t nt => ?_⟩
        exact h1 _ y _ (if_pos e) (same_new nt) ⟨t, c, rfl, upd_same, RowA.mono (tup_new nt) hc⟩
      · exact h2 _ (if_neg e) (Same.refl _)
    · rw [fm_filter] at py
      exact q _ _ sm ⟨D, ys, rfl, hy, py⟩
end
end L2.K21
namespace L2.K21
open PySem PySem.Spec PyProof.Rows
open TdS (RowA ltR SortedOf)
section
variable {P : Program} {w : World} {K : PySem.W.Frag} {mg : PySem.Str → Option Value} {base : Heap}
theorem dp_strs {H : Hp} : ∀ l : List PySem.Str, DpAll K H (l.map V.str) (l.map PyData.str)
  | [] => .nil
  | i :: l => .cons (.str i) (dp_strs l)
theorem lay_strs : ∀ l : List PySem.Str, (∀ k ∈ l, PyData.strOk k = true) → PyData.canLayAll0 (l.map PyData.str) = true ∧ PyData.depthAll (l.map PyData.str) ≤ 1
  | [], _ => ⟨by simp only [List.map_nil, PyData.canLayAll0], by simp [PyData.depthAll]⟩
  | i :: l, h => by
    obtain ⟨h1, h2⟩ := lay_strs l fun k hk => h k (List.mem_cons_of_mem _ hk)
    have h3 := h i (List.mem_cons_self ..)
    refine ⟨by simp only [List.map_cons, PyData.canLayAll0, PyData.canLay0, h1, h3, Bool.and_self], ?_⟩
    simp only [List.map_cons, PyData.depthAll, PyData.depth]
    omega
theorem sh_strs {l : List PySem.Str} (h : ∀ k ∈ l, PyData.strOk k = true) : SeqAt.shaped (.tuple (l.map PyData.str)) = true := by
  obtain ⟨h1, h2⟩ := lay_strs l h
  have h3 : PyData.depth (.tuple (l.map PyData.str)) ≤ 64 := by
    simp only [PyData.depth]
    omega
  exact Bool.and_eq_true_iff.mpr ⟨by simp only [PyData.canLay0]; exact h1, decide_eq_true h3⟩
theorem at_lst {l init : List Int} {x : Int} (h : l = init ++ [x]) : atI (l.map V.int) (-1) = some (.int x) := by
  subst h
  rw [List.map_append]
  exact atI_last _ _
def spShow : Sp := fun vs H Q _ => ∃ v, vs = [v] ∧ StgsV H v ∧ ∀ x s H', Same H H' → ShowO H' x s → (∀ s', s = some s' → ShOk s') → Q x H'
theorem sc__law_show : FnScope ["_law_stages_here", "_law_keys", "_law_found", "_law_factor", "_law_name", "_law_stage_here", "_law_low", "_law_high", "_law_holes", "_law_value_here"] ["_law_stages_here"] (defScope (topS 39)) := ⟨rfl, rfl, rfl, by decide +kernel, rfl, by decide +kernel, by decide +kernel⟩
theorem ok__law_show (T : Txt K mg) : FnOk P w K mg base CX0 3 T.d__law_show.f T.d__law_show.fd ["_law_stages_here"] spShow := by
  refine T.d__law_show.F.ok sc__law_show (fun vs H Q E h => ?_) (fun cdv A outer s0 H vs Q E hr h => ?_)
  · obtain ⟨_, rfl, _⟩ := h
    rfl
  · obtain ⟨v, rfl, hs, q⟩ := h
    refine ⟨_, (pss_cons (ps_set (i := 1) sc__law_show.nd rfl (Or.inl rfl) (pe_call (ok__law_keys_shown T) (hr.mono (by decide)) (by rfl) T.d__law_keys_shown.g T.d__law_keys_shown.F.kp T.d__law_keys_shown.b .nil pass0 (pa_cons (pv 0) pa_nil)))
      (pss_cons (ps_set (i := 2) sc__law_show.nd rfl (Or.inr rfl) (pe_lc (own := [("_law_value_here", 9)]) (by rfl) sc__law_show.nd (pi_range2 (by rfl) T.z_range (pa_cons (pe_un un_neg pe_int) (pa_cons pe_int pa_nil))) (blkOk_by (own := [("_law_value_here", 9)]) (N := ["_law_stages_here", "_law_keys", "_law_found", "_law_factor", "_law_name", "_law_stage_here", "_law_low", "_law_high", "_law_holes", "_law_value_here"]) (sc := defScope (topS 39)) (by decide +kernel)) (fun _ _ _ _ _ => (pg_name (i := 9) sc__law_show.nd rfl (Or.inl rfl))) (fun _ _ _ _ _ => pts_one (pt_cmpR op_notN (pe_call (ok__law_value T) (hr.mono (by decide)) (by rfl) T.d__law_value.g T.d__law_value.F.kp T.d__law_value.b .nil pass0 (pa_cons (pv 0) (pa_cons (pv 9) pa_nil))) pe_non (nomark _))) (fun _ _ _ _ _ => (pv 9))))
      (pss_cons (ps_if (PW.pt (pw_or (pt_cmpR (op_eqD hr.units) (pv 1) (pe_tup pa_nil) (nomark _)) (pw_or1 (pt_not (pt_truth (pv 2) (by intro _; rfl))))))
        (pss_one (ps_ret pe_non))
        pss_nil)
      (pss_cons (ps_set (i := 3) sc__law_show.nd rfl (Or.inl rfl) pe_int)
      (pss_cons (ps_set (i := 4) sc__law_show.nd rfl (Or.inl rfl) pe_non)
      (pss_cons (ps_for PassesOwn.never rfl (pi_list (pv 0)) (pg_name (i := 5) sc__law_show.nd rfl (Or.inl rfl))
        (pss_cons (ps_if (pt_cmpR op_eq (pe_ix (ixT K) (pv 5) pe_int (fun _ _ => rfl)) pe_str (nomark _))
          (pss_one (ps_set (i := 3) sc__law_show.nd rfl (Or.inl rfl) (pe_op op_mul (pv 3) (pe_ix (ixT K) (pv 5) pe_int (fun _ _ => rfl)))))
          pss_nil)
        (pss_one (ps_if (pt_cmpR op_eq (pe_ix (ixT K) (pv 5) pe_int (fun _ _ => rfl)) pe_str (nomark _))
          (pss_one (ps_set (i := 4) sc__law_show.nd rfl (Or.inl rfl) (pe_ix (ixT K) (pv 5) pe_int (fun _ _ => rfl))))
          pss_nil))))
      (pss_cons (ps_set (i := 6) sc__law_show.nd rfl (Or.inl rfl) (pe_ifExp (pt_cmpR op_eq (pe_ix (ixL K) (pv 2) pe_int (fun _ _ => rfl)) (pe_un un_neg pe_int) (nomark _)) pe_non (pe_ix (ixL K) (pv 2) pe_int (fun _ _ => rfl))))
      (pss_cons (ps_set (i := 7) sc__law_show.nd rfl (Or.inl rfl) (pe_ifExp (pt_cmpR op_eq (pe_ix (ixL K) (pv 2) (pe_un un_neg pe_int) (fun _ _ => rfl)) pe_int (nomark _)) pe_non (pe_ix (ixL K) (pv 2) (pe_un un_neg pe_int) (fun _ _ => rfl))))
      (pss_cons (ps_setLc (i := 8) (own := [("_law_value_here", 9)]) (by rfl) sc__law_show.nd rfl rfl (sw_true rfl rfl rfl (by decide +kernel)) (pi_range2 (by rfl) T.z_range (pa_cons (pe_ix (ixL K) (pv 2) pe_int (fun _ _ => rfl)) (pa_cons (pe_op op_add (pe_ix (ixL K) (pv 2) (pe_un un_neg pe_int) (fun _ _ => rfl)) pe_int) pa_nil))) (blkOk_by (own := [("_law_value_here", 9)]) (N := ["_law_stages_here", "_law_keys", "_law_found", "_law_factor", "_law_name", "_law_stage_here", "_law_low", "_law_high", "_law_holes", "_law_value_here"]) (sc := defScope (topS 39)) (by decide +kernel)) (fun _ _ _ _ _ => (pg_name (i := 9) sc__law_show.nd rfl (Or.inl rfl))) (fun _ _ _ _ _ => pts_one (pt_cmpR (notInSeq K) (pv 9) (pv 2) (by rfl))) (fun _ _ _ _ _ => (pv 9)))
      (pss_one (ps_ret (pe_tup (pa_cons (pv 1) (pa_cons (pv 6) (pa_cons (pv 7) (pa_cons (pe_callTy call_tuple_of (by rfl) T.z_tuple (by decide +kernel) (pa_cons (pv 8) pa_nil)) (pa_cons (pv 3) (pa_cons (pv 4) pa_nil)))))))))))))))))), ?_⟩
    refine ⟨_, rfl, v, rfl, hs, fun kv ko H1 s1 hk kok => ?_⟩
    refine ⟨_, rfl, _, _, rfl, ⟨by decide, by decide, by decide, by decide⟩, fun D nD => ?_⟩
    have D0 : H D = none := s1.free nD
    refine lc_range (fun i H' => Same H1 H' ∧ ∃ fs : List Int, H' D = some (.lst (fs.map V.int)) ∧ fs.Pairwise (· < ·) ∧ (∀ x ∈ fs, -40 ≤ x ∧ x < -40 + (i : Int)) ∧ fs.length ≤ i) ⟨same_new nD, [], upd_same, List.Pairwise.nil, fun x hx => by simp at hx, Nat.le_refl _⟩ (fun i H' hi p => ?_) fun H2 p => ?_
    · obtain ⟨sm, fs, hf, pf, bf, lf⟩ := p
      have hi' : i < 81 := hi
      refine ⟨rfl, _, rfl, _, rfl, v, _, rfl, (hs.mono s1).mono sm, ⟨rfl, _, rfl, iteF ⟨sm, fs, hf, pf, fun x hx => ?_, by omega⟩⟩, fun z => ⟨rfl, _, rfl, iteT ⟨_, rfl, _, hf, small1000 (by rw [List.length_map]; omega), same_upd sm nD, fs ++ [-40 + (i : Int)], ?_, ?_, fun x hx => ?_, ?_⟩⟩⟩
      · have := bf x hx
        omega
      · rw [upd_same, List.map_append]
        rfl
      · rw [List.pairwise_append]
        refine ⟨pf, List.pairwise_singleton _ _, fun a ha b hb => ?_⟩
        rw [List.mem_singleton.mp hb]
        exact (bf a ha).2
      · rcases List.mem_append.mp hx with z | z
        · have := bf x z
          omega
        · rw [List.mem_singleton.mp z]
          omega
      · rw [List.length_append]
        exact Nat.succ_le_succ lf
    obtain ⟨sm, fs, hf, pf, bf, lf⟩ := p
    have lf' : fs.length ≤ 81 := lf
    have s2 := s1.trans sm
    have hk2 := hk.mono (tup_of sm)
    have eqE : ∃ e, ∀ p, H2 p = none → ∃ d1 d2, Dp K (upd H2 p (.tup [])) kv d1 ∧ Dp K (upd H2 p (.tup [])) (.ref p) d2 ∧ SeqAt.shaped d1 = true ∧ SeqAt.shaped d2 = true ∧ PyData.eqv d1 d2 = e := by
      cases ko with
      | none =>
        cases (show kv = .non from hk2)
        exact ⟨_, fun p hp => ⟨.none, .tuple [], .non, Dp.tup (SqT.of upd_same) .nil, by decide, by decide, rfl⟩⟩
      | some ks =>
        obtain ⟨a, rfl, ha⟩ := hk2
        exact ⟨_, fun p hp => ⟨.tuple (ks.map PyData.str), .tuple [], Dp.tup (SqT.of (same_new hp _ _ ha)) (dp_strs ks), Dp.tup (SqT.of upd_same) .nil, sh_strs (kok ks rfl).2, by decide, rfl⟩⟩
    obtain ⟨e, he⟩ := eqE
    refine ⟨_, rfl, (by show 0 ≤ sizeLine; decide), fun p np => ?_⟩
    obtain ⟨d1, d2, p1, p2, p3, p4, p5⟩ := he p np
    refine ⟨d1, d2, p1, p2, p3, p4, ?_⟩
    rw [p5]
    have s3 := s2.trans (same_new (o := .tup []) np)
    refine ⟨_, rfl, ite2 (fun _ => ?_) fun _ => ?_⟩
    · exact iteT (q .non none _ s3 rfl fun s' e => by cases e)
    have hf3 := same_new (o := .tup []) np _ _ hf
    refine ⟨_, rfl, _, .inl ⟨_, SqL.of hf3, rfl⟩, ?_⟩
    cases fs with
    | nil => exact iteT (q .non none _ s3 rfl fun s' e => by cases e)
    | cons x0 fr =>
    refine iteF ?_
    have hk3 := hk2.mono (tup_of (same_new (o := .tup []) np))
    generalize upd H2 p (.tup []) = H3 at *
    obtain ⟨sa, ys, rfl, hsa, hst, hsl⟩ := id (hs.mono s3)
    refine ⟨_, rfl, sa, rfl, ⟨_, SqL.of hsa⟩, ?_⟩
    refine for_list (xs := ys) (fun i σ' H' => ∃ f nv x5, σ' = [some (.ref sa), some kv, some (.ref D), some (.int f), some nv, x5, none, none, none, none] ∧ H' = H3) ⟨1, .non, _, rfl, rfl⟩ (fun i σ' H' _ n => ?_) (fun i y σ' H' hy n => ?_) fun σ' H' n => ?_
    · obtain ⟨_, _, _, _, rfl⟩ := n
      exact SqL.of hsa
    · obtain ⟨f, nv, x5, rfl, rfl⟩ := n
      obtain ⟨t, rfl, k⟩ := hst y (List.mem_of_getElem? hy)
      rcases k with ⟨c, b, h⟩ | ⟨kt, ks, h, _⟩ | ⟨g, h, f0, f1⟩ | ⟨n, h⟩ | ⟨n, h⟩
      · exact ⟨_, rfl, _, _, _, _, rfl, rfl, SqT.of h, rfl, rfl, _, rfl, iteF ⟨_, rfl, _, _, _, _, rfl, rfl, SqT.of h, rfl, rfl, _, rfl, iteF ⟨f, nv, _, rfl, rfl⟩⟩⟩
      · exact ⟨_, rfl, _, _, _, _, rfl, rfl, SqT.of h, rfl, rfl, _, rfl, iteF ⟨_, rfl, _, _, _, _, rfl, rfl, SqT.of h, rfl, rfl, _, rfl, iteF ⟨f, nv, _, rfl, rfl⟩⟩⟩
      · refine ⟨_, rfl, _, _, _, _, rfl, rfl, SqT.of h, rfl, rfl, _, rfl, iteT ⟨_, rfl, _, rfl, _, _, _, _, rfl, rfl, SqT.of h, rfl, _, _, rfl, rfl, .inr ⟨by omega, by omega⟩, ?_⟩⟩
        exact ⟨_, rfl, _, _, _, _, rfl, rfl, SqT.of h, rfl, rfl, _, rfl, iteF ⟨f * g, nv, _, rfl, rfl⟩⟩
      · refine ⟨_, rfl, _, _, _, _, rfl, rfl, SqT.of h, rfl, rfl, _, rfl, iteF ⟨_, rfl, _, _, _, _, rfl, rfl, SqT.of h, rfl, rfl, _, rfl, iteT ?_⟩⟩
        exact ⟨_, rfl, _, _, _, _, rfl, rfl, SqT.of h, rfl, f, .str n, _, rfl, rfl⟩
      · exact ⟨_, rfl, _, _, _, _, rfl, rfl, SqT.of h, rfl, rfl, _, rfl, iteF ⟨_, rfl, _, _, _, _, rfl, rfl, SqT.of h, rfl, rfl, _, rfl, iteF ⟨f, nv, _, rfl, rfl⟩⟩⟩
    obtain ⟨f, nv, x5, rfl, rfl⟩ := n
    obtain ⟨init, xl, el⟩ : ∃ init xl, x0 :: fr = init ++ [xl] := by
      rcases List.eq_nil_or_concat (x0 :: fr) with h | ⟨a, b, h⟩
      · cases h
      · exact ⟨a, b, by rw [h, List.concat_eq_append]⟩
    have hl := at_lst el
    have m0 : x0 ∈ x0 :: fr := List.mem_cons_self ..
    have ml : xl ∈ x0 :: fr := by rw [el]; exact List.mem_append_right _ (List.mem_cons_self ..)
    have b0 := bf x0 m0
    have bl := bf xl ml
    have n81 : ((41 - -40 : Int).toNat : Int) = 81 := rfl
    have x0l : x0 ≤ xl := by
      rcases List.mem_cons.mp ml with z | z
      · omega
      · exact Int.le_of_lt ((List.pairwise_cons.mp pf).1 xl z)
    have fin : ∀ (lo hi : Option Int), (∀ l, lo = some l → l = x0) → (∀ l, hi = some l → l = xl) → ∀ (H4 : Hp) (D2 : Addr) (hs : List Int), Same H' H4 → H4 D2 = some (.lst (hs.map V.int)) → hs.Pairwise (· < ·) → (∀ x ∈ hs, x0 ≤ x ∧ x ≤ xl ∧ x ∉ x0 :: fr) → hs.length ≤ 1000 →
        ∀ ht, H4 ht = none → ∀ p, (upd H4 ht (.tup (hs.map V.int))) p = none → Q (.ref p) (upd (upd H4 ht (.tup (hs.map V.int))) p (.tup [kv, optI lo, optI hi, .ref ht, .int f, nv])) := fun lo hi h1 h2 H4 D2 hs s4 hD hp hm hlen ht nht p np => by
      have s5 := (same_new (o := .tup (hs.map V.int)) nht).trans (same_new (o := .tup [kv, optI lo, optI hi, .ref ht, .int f, nv]) np)
      refine q _ (some ⟨ko, lo, hi, hs, f⟩) _ (s3.trans (s4.trans s5)) ⟨p, kv, ht, nv, rfl, upd_same, (hk3.mono (tup_of (s4.trans s5))), same_new np _ _ upd_same⟩ fun s' e => ?_
      cases e
      exact ⟨hp, fun l e h hh => by
        have e1 := h1 l e
        obtain ⟨a, b, c⟩ := hm h hh
        have : h ≠ x0 := fun z => c (by rw [z]; exact m0)
        show l < h
        omega, fun l e h hh => by
        have e1 := h2 l e
        obtain ⟨a, b, c⟩ := hm h hh
        have : h ≠ xl := fun z => c (by rw [z]; exact ml)
        show h < l
        omega, fun l h e e2 => by
        have := h1 l e
        have := h2 h e2
        omega, hlen⟩
    have rng : (xl + 1 - x0).toNat ≤ 81 := by omega
    -- low
    refine ⟨_, rfl, _, _, 0, _, rfl, rfl, SqL.of hf3, atI_nat (j := 0) rfl, _, rfl, rfl, _, rfl, ?_⟩
    refine ite2 (fun _ => ?_) fun _ => ?_
    · skip
      refine ⟨_, rfl, _, rfl, _, _, _, _, rfl, rfl, SqL.of hf3, hl, rfl, _, rfl, ite2 (fun _ => ?_) fun _ => ?_⟩
      · skip
        refine ⟨_, rfl, _, _, 0, _, rfl, rfl, SqL.of hf3, atI_nat (j := 0) rfl, _, rfl, _, rfl, _, _, _, _, rfl, rfl, SqL.of hf3, hl, _, _, rfl, rfl, _, _, rfl, ⟨by omega, by omega, by omega, by omega⟩, fun D2 nD2 => ?_⟩
        refine lc_range (fun i H4 => Same H' H4 ∧ ∃ hs : List Int, H4 D2 = some (.lst (hs.map V.int)) ∧ hs.Pairwise (· < ·) ∧ (∀ x ∈ hs, x0 ≤ x ∧ x < x0 + (i : Int) ∧ x ∉ x0 :: fr) ∧ hs.length ≤ i) ⟨same_new nD2, [], upd_same, List.Pairwise.nil, fun x hx => by simp at hx, Nat.le_refl _⟩ (fun i H4 hi p => ?_) fun H4 p => ?_
        · obtain ⟨sm4, hs, hh, ph, bh, lh⟩ := p
          have ev : (if true = true then !inV (.int (x0 + (i : Int))) ((x0 :: fr).map V.int) else inV (.int (x0 + (i : Int))) ((x0 :: fr).map V.int)) = !holed (x0 :: fr) (x0 + (i : Int)) := by
            rw [in_ints]
            rfl
          refine ⟨rfl, _, rfl, _, rfl, D, _, rfl, .inl (SqL.of (sm4 _ _ hf3)), rfl, flat_ints _, _, rfl, ite2 (fun e => ?_) fun e => ?_⟩
          · have e1 : holed (x0 :: fr) (x0 + (i : Int)) = false := by
              have := ev.symm.trans e
              simpa using this
            have e2 := holed_not.mp e1
            refine ⟨_, rfl, _, hh, small1000 (by rw [List.length_map]; omega), same_upd sm4 nD2, hs ++ [x0 + (i : Int)], ?_, ?_, fun x hx => ?_, ?_⟩
            · rw [upd_same, List.map_append]
              rfl
            · rw [List.pairwise_append]
              refine ⟨ph, List.pairwise_singleton _ _, fun a ha b hb => ?_⟩
              rw [List.mem_singleton.mp hb]
              exact (bh a ha).2.1
            · rcases List.mem_append.mp hx with z | z
              · obtain ⟨z1, z2, z3⟩ := bh x z
                exact ⟨z1, by omega, z3⟩
              · rw [List.mem_singleton.mp z]
                exact ⟨by omega, by omega, e2⟩
            · rw [List.length_append]
              exact Nat.succ_le_succ lh
          · refine ⟨sm4, hs, hh, ph, fun x hx => ?_, by omega⟩
            obtain ⟨z1, z2, z3⟩ := bh x hx
            exact ⟨z1, by omega, z3⟩
        · obtain ⟨sm4, hs, hh, ph, bh, lh⟩ := p
          refine ⟨_, rfl, _, rfl, _, rfl, _, rfl, D2, _, rfl, .inl ⟨SqL.of hh, fun ht nht => ⟨_, rfl, _, rfl, (by show 6 ≤ sizeLine; decide), fun p np => ?_⟩⟩⟩
          exact fin none none (fun l e => by cases e) (fun l e => by cases e) H4 D2 hs sm4 hh ph (fun x hx => by
            obtain ⟨z1, z2, z3⟩ := bh x hx
            exact ⟨z1, by omega, z3⟩) (by omega) ht nht p np
      · refine ⟨_, rfl, _, rfl, _, _, _, _, rfl, rfl, SqL.of hf3, hl, ?_⟩
        refine ⟨_, rfl, _, _, 0, _, rfl, rfl, SqL.of hf3, atI_nat (j := 0) rfl, _, rfl, _, rfl, _, _, _, _, rfl, rfl, SqL.of hf3, hl, _, _, rfl, rfl, _, _, rfl, ⟨by omega, by omega, by omega, by omega⟩, fun D2 nD2 => ?_⟩
        refine lc_range (fun i H4 => Same H' H4 ∧ ∃ hs : List Int, H4 D2 = some (.lst (hs.map V.int)) ∧ hs.Pairwise (· < ·) ∧ (∀ x ∈ hs, x0 ≤ x ∧ x < x0 + (i : Int) ∧ x ∉ x0 :: fr) ∧ hs.length ≤ i) ⟨same_new nD2, [], upd_same, List.Pairwise.nil, fun x hx => by simp at hx, Nat.le_refl _⟩ (fun i H4 hi p => ?_) fun H4 p => ?_
        · obtain ⟨sm4, hs, hh, ph, bh, lh⟩ := p
          have ev : (if true = true then !inV (.int (x0 + (i : Int))) ((x0 :: fr).map V.int) else inV (.int (x0 + (i : Int))) ((x0 :: fr).map V.int)) = !holed (x0 :: fr) (x0 + (i : Int)) := by
            rw [in_ints]
            rfl
          refine ⟨rfl, _, rfl, _, rfl, D, _, rfl, .inl (SqL.of (sm4 _ _ hf3)), rfl, flat_ints _, _, rfl, ite2 (fun e => ?_) fun e => ?_⟩
          · have e1 : holed (x0 :: fr) (x0 + (i : Int)) = false := by
              have := ev.symm.trans e
              simpa using this
            have e2 := holed_not.mp e1
            refine ⟨_, rfl, _, hh, small1000 (by rw [List.length_map]; omega), same_upd sm4 nD2, hs ++ [x0 + (i : Int)], ?_, ?_, fun x hx => ?_, ?_⟩
            · rw [upd_same, List.map_append]
              rfl
            · rw [List.pairwise_append]
              refine ⟨ph, List.pairwise_singleton _ _, fun a ha b hb => ?_⟩
              rw [List.mem_singleton.mp hb]
              exact (bh a ha).2.1
            · rcases List.mem_append.mp hx with z | z
              · obtain ⟨z1, z2, z3⟩ := bh x z
                exact ⟨z1, by omega, z3⟩
              · rw [List.mem_singleton.mp z]
                exact ⟨by omega, by omega, e2⟩
            · rw [List.length_append]
              exact Nat.succ_le_succ lh
          · refine ⟨sm4, hs, hh, ph, fun x hx => ?_, by omega⟩
            obtain ⟨z1, z2, z3⟩ := bh x hx
            exact ⟨z1, by omega, z3⟩
        · obtain ⟨sm4, hs, hh, ph, bh, lh⟩ := p
          refine ⟨_, rfl, _, rfl, _, rfl, _, rfl, D2, _, rfl, .inl ⟨SqL.of hh, fun ht nht => ⟨_, rfl, _, rfl, (by show 6 ≤ sizeLine; decide), fun p np => ?_⟩⟩⟩
          exact fin none (some xl) (fun l e => by cases e) (fun l e => by cases e; rfl) H4 D2 hs sm4 hh ph (fun x hx => by
            obtain ⟨z1, z2, z3⟩ := bh x hx
            exact ⟨z1, by omega, z3⟩) (by omega) ht nht p np
    · refine ⟨_, rfl, _, _, 0, _, rfl, rfl, SqL.of hf3, atI_nat (j := 0) rfl, ?_⟩
      refine ⟨_, rfl, _, rfl, _, _, _, _, rfl, rfl, SqL.of hf3, hl, rfl, _, rfl, ite2 (fun _ => ?_) fun _ => ?_⟩
      · skip
        refine ⟨_, rfl, _, _, 0, _, rfl, rfl, SqL.of hf3, atI_nat (j := 0) rfl, _, rfl, _, rfl, _, _, _, _, rfl, rfl, SqL.of hf3, hl, _, _, rfl, rfl, _, _, rfl, ⟨by omega, by omega, by omega, by omega⟩, fun D2 nD2 => ?_⟩
        refine lc_range (fun i H4 => Same H' H4 ∧ ∃ hs : List Int, H4 D2 = some (.lst (hs.map V.int)) ∧ hs.Pairwise (· < ·) ∧ (∀ x ∈ hs, x0 ≤ x ∧ x < x0 + (i : Int) ∧ x ∉ x0 :: fr) ∧ hs.length ≤ i) ⟨same_new nD2, [], upd_same, List.Pairwise.nil, fun x hx => by simp at hx, Nat.le_refl _⟩ (fun i H4 hi p => ?_) fun H4 p => ?_
        · obtain ⟨sm4, hs, hh, ph, bh, lh⟩ := p
          have ev : (if true = true then !inV (.int (x0 + (i : Int))) ((x0 :: fr).map V.int) else inV (.int (x0 + (i : Int))) ((x0 :: fr).map V.int)) = !holed (x0 :: fr) (x0 + (i : Int)) := by
            rw [in_ints]
            rfl
          refine ⟨rfl, _, rfl, _, rfl, D, _, rfl, .inl (SqL.of (sm4 _ _ hf3)), rfl, flat_ints _, _, rfl, ite2 (fun e => ?_) fun e => ?_⟩
          · have e1 : holed (x0 :: fr) (x0 + (i : Int)) = false := by
              have := ev.symm.trans e
              simpa using this
            have e2 := holed_not.mp e1
            refine ⟨_, rfl, _, hh, small1000 (by rw [List.length_map]; omega), same_upd sm4 nD2, hs ++ [x0 + (i : Int)], ?_, ?_, fun x hx => ?_, ?_⟩
            · rw [upd_same, List.map_append]
              rfl
            · rw [List.pairwise_append]
              refine ⟨ph, List.pairwise_singleton _ _, fun a ha b hb => ?_⟩
              rw [List.mem_singleton.mp hb]
              exact (bh a ha).2.1
            · rcases List.mem_append.mp hx with z | z
              · obtain ⟨z1, z2, z3⟩ := bh x z
                exact ⟨z1, by omega, z3⟩
              · rw [List.mem_singleton.mp z]
                exact ⟨by omega, by omega, e2⟩
            · rw [List.length_append]
              exact Nat.succ_le_succ lh
          · refine ⟨sm4, hs, hh, ph, fun x hx => ?_, by omega⟩
            obtain ⟨z1, z2, z3⟩ := bh x hx
            exact ⟨z1, by omega, z3⟩
        · obtain ⟨sm4, hs, hh, ph, bh, lh⟩ := p
          refine ⟨_, rfl, _, rfl, _, rfl, _, rfl, D2, _, rfl, .inl ⟨SqL.of hh, fun ht nht => ⟨_, rfl, _, rfl, (by show 6 ≤ sizeLine; decide), fun p np => ?_⟩⟩⟩
          exact fin (some x0) none (fun l e => by cases e; rfl) (fun l e => by cases e) H4 D2 hs sm4 hh ph (fun x hx => by
            obtain ⟨z1, z2, z3⟩ := bh x hx
            exact ⟨z1, by omega, z3⟩) (by omega) ht nht p np
      · refine ⟨_, rfl, _, rfl, _, _, _, _, rfl, rfl, SqL.of hf3, hl, ?_⟩
        refine ⟨_, rfl, _, _, 0, _, rfl, rfl, SqL.of hf3, atI_nat (j := 0) rfl, _, rfl, _, rfl, _, _, _, _, rfl, rfl, SqL.of hf3, hl, _, _, rfl, rfl, _, _, rfl, ⟨by omega, by omega, by omega, by omega⟩, fun D2 nD2 => ?_⟩
        refine lc_range (fun i H4 => Same H' H4 ∧ ∃ hs : List Int, H4 D2 = some (.lst (hs.map V.int)) ∧ hs.Pairwise (· < ·) ∧ (∀ x ∈ hs, x0 ≤ x ∧ x < x0 + (i : Int) ∧ x ∉ x0 :: fr) ∧ hs.length ≤ i) ⟨same_new nD2, [], upd_same, List.Pairwise.nil, fun x hx => by simp at hx, Nat.le_refl _⟩ (fun i H4 hi p => ?_) fun H4 p => ?_
        · obtain ⟨sm4, hs, hh, ph, bh, lh⟩ := p
          have ev : (if true = true then !inV (.int (x0 + (i : Int))) ((x0 :: fr).map V.int) else inV (.int (x0 + (i : Int))) ((x0 :: fr).map V.int)) = !holed (x0 :: fr) (x0 + (i : Int)) := by
            rw [in_ints]
            rfl
          refine ⟨rfl, _, rfl, _, rfl, D, _, rfl, .inl (SqL.of (sm4 _ _ hf3)), rfl, flat_ints _, _, rfl, ite2 (fun e => ?_) fun e => ?_⟩
          · have e1 : holed (x0 :: fr) (x0 + (i : Int)) = false := by
              have := ev.symm.trans e
              simpa using this
            have e2 := holed_not.mp e1
            refine ⟨_, rfl, _, hh, small1000 (by rw [List.length_map]; omega), same_upd sm4 nD2, hs ++ [x0 + (i : Int)], ?_, ?_, fun x hx => ?_, ?_⟩
            · rw [upd_same, List.map_append]
              rfl
            · rw [List.pairwise_append]
              refine ⟨ph, List.pairwise_singleton _ _, fun a ha b hb => ?_⟩
              rw [List.mem_singleton.mp hb]
              exact (bh a ha).2.1
            · rcases List.mem_append.mp hx with z | z
              · obtain ⟨z1, z2, z3⟩ := bh x z
                exact ⟨z1, by omega, z3⟩
              · rw [List.mem_singleton.mp z]
                exact ⟨by omega, by omega, e2⟩
            · rw [List.length_append]
              exact Nat.succ_le_succ lh
          · refine ⟨sm4, hs, hh, ph, fun x hx => ?_, by omega⟩
            obtain ⟨z1, z2, z3⟩ := bh x hx
            exact ⟨z1, by omega, z3⟩
        · obtain ⟨sm4, hs, hh, ph, bh, lh⟩ := p
          refine ⟨_, rfl, _, rfl, _, rfl, _, rfl, D2, _, rfl, .inl ⟨SqL.of hh, fun ht nht => ⟨_, rfl, _, rfl, (by show 6 ≤ sizeLine; decide), fun p np => ?_⟩⟩⟩
          exact fin (some x0) (some xl) (fun l e => by cases e; rfl) (fun l e => by cases e; rfl) H4 D2 hs sm4 hh ph (fun x hx => by
            obtain ⟨z1, z2, z3⟩ := bh x hx
            exact ⟨z1, by omega, z3⟩) (by omega) ht nht p np
end
end L2.K21
namespace L2.K21
open PySem PySem.Spec PyProof.Rows
open TdS (RowA ltR SortedOf)
section
variable {P : Program} {w : World} {K : PySem.W.Frag} {mg : PySem.Str → Option Value} {base : Heap}
theorem cnt_bd {N : Int} : ∀ {ps : List (Row × Int)}, (∀ q ∈ ps, 0 ≤ q.2 ∧ q.2 ≤ N) → ∀ r, 0 ≤ Td.cnt ps r ∧ Td.cnt ps r ≤ N * (ps.length : Int)
  | [], _, r => by rw [Td.cnt_nil]; simp
  | p :: ps, h, r => by
    obtain ⟨h1, h2⟩ := h p (List.mem_cons_self ..)
    obtain ⟨i1, i2⟩ := cnt_bd (fun q hq => h q (List.mem_cons_of_mem _ hq)) r
    rw [Td.cnt_cons, List.length_cons, Int.natCast_add, Int.mul_add]
    split <;> omega
/-- one pair more, its row laid before: the list at p grows -/
theorem put_pair {H0 H : Hp} {d s b c p : Addr} {ys : List V} {ps : List (Row × Int)} {r : Row} {n : Int} (sx : SameX d H0 H) (dx : Draw H d s) (h0 : H0 p = none) (d0 : p ≠ d ∧ p ≠ s) (hp : H p = some (.lst ys)) (hr : Paired (PairV H) ys ps) (hc : RowA H c r) (hb : H b = none) :
    (upd H b (.tup [.ref c, .int n])) p = some (.lst ys) ∧ SameX d H0 (upd (upd H b (.tup [.ref c, .int n])) p (.lst (ys ++ [.ref b]))) ∧ Draw (upd (upd H b (.tup [.ref c, .int n])) p (.lst (ys ++ [.ref b]))) d s ∧
      Paired (PairV (upd (upd H b (.tup [.ref c, .int n])) p (.lst (ys ++ [.ref b])))) (ys ++ [.ref b]) (ps ++ [(r, n)]) := by
  have h1 := same_new (o := .tup [.ref c, .int n]) hb _ _ hp
  have t3 : Tup H (upd (upd H b (.tup [.ref c, .int n])) p (.lst (ys ++ [.ref b]))) := (tup_new hb).trans (tup_lst h1)
  refine ⟨h1, fun x o nx e => ?_, (dx.mono (same_new hb)).put d0.1 d0.2, (pmap hr fun _ _ q => q.mono t3).snoc ⟨b, c, rfl, tup_lst h1 _ _ upd_same, t3 _ _ hc⟩⟩
  rw [upd_ne (ne_of_none e h0)]
  exact same_new hb _ _ (sx x o nx e)
def spBag : Sp := fun vs H Q _ => ∃ d s m k, vs = [.ref d, .int m, .int k] ∧ Draw H d s ∧ 0 ≤ k ∧ k ≤ 10 ∧ ∀ u H' l, SameX d H H' → Draw H' d s → BagV H' u l → Can l → (∀ q ∈ l, 0 < q.2 ∧ q.2 ≤ 20) → l.length ≤ 10 → Q u H'
theorem sc__law_bag : FnScope ["_law_draw_here", "_law_mark_here", "_law_most", "_law_pairs", "_law_k", "_law_time", "_law_key"] ["_law_draw_here", "_law_mark_here", "_law_most"] (defScope (topS 45)) := ⟨rfl, rfl, rfl, by decide +kernel, rfl, by decide +kernel, by decide +kernel⟩
theorem ok__law_bag (T : Txt K mg) : FnOk P w K mg base CX0 2 T.d__law_bag.f T.d__law_bag.fd ["_law_draw_here", "_law_mark_here", "_law_most"] spBag := by
  refine T.d__law_bag.F.ok sc__law_bag (fun vs H Q E h => ?_) (fun cdv A outer s0 H vs Q E hr h => ?_)
  · obtain ⟨_, _, _, _, rfl, _⟩ := h
    rfl
  · obtain ⟨d, s, m, k, rfl, hd, k0, k1, q⟩ := h
    refine ⟨_, (pss_cons (ps_set (i := 3) sc__law_bag.nd rfl (Or.inl rfl) (pe_lst pa_nil))
      (pss_cons (ps_for PassesOwn.never rfl (pi_range1 (by rfl) T.z_range (pa_cons (pe_call (ok__law_next T) (hr.mono (by decide)) (by rfl) T.d__law_next.g T.d__law_next.F.kp T.d__law_next.b .nil pass0 (pa_cons (pv 0) (pa_cons (pe_op op_add (pv 2) pe_int) pa_nil))) pa_nil)) (pg_name (i := 4) sc__law_bag.nd rfl (Or.inl rfl))
        (pss_cons (ps_set (i := 5) sc__law_bag.nd rfl (Or.inl rfl) (pe_op op_add (pe_op op_sub (pv 1) pe_int) (pe_call (ok__law_next T) (hr.mono (by decide)) (by rfl) T.d__law_next.g T.d__law_next.F.kp T.d__law_next.b .nil pass0 (pa_cons (pv 0) (pa_cons pe_int pa_nil)))))
        (pss_cons (ps_set (i := 6) sc__law_bag.nd rfl (Or.inl rfl) (pe_ix (ixL K) (pe_lst (pa_cons pe_str (pa_cons pe_str (pa_cons pe_str (pa_cons pe_str pa_nil))))) (pe_call (ok__law_next T) (hr.mono (by decide)) (by rfl) T.d__law_next.g T.d__law_next.F.kp T.d__law_next.b .nil pass0 (pa_cons (pv 0) (pa_cons pe_int pa_nil))) (fun _ _ => rfl)))
        (pss_one (ps_expr (pe_bm PySem.F.plainAttrs_list PySem.F.slot_list_append PySem.F.type_list_append mt_append (pv 3) (pa_cons (pe_tup (pa_cons (pe_tup (pa_cons (pv 5) (pa_cons (pv 6) (pa_cons (pe_op op_sub (pe_call (ok__law_next T) (hr.mono (by decide)) (by rfl) T.d__law_next.g T.d__law_next.F.kp T.d__law_next.b .nil pass0 (pa_cons (pv 0) (pa_cons pe_int pa_nil))) pe_int) pa_nil)))) (pa_cons (pe_op op_add pe_int (pe_call (ok__law_next T) (hr.mono (by decide)) (by rfl) T.d__law_next.g T.d__law_next.F.kp T.d__law_next.b .nil pass0 (pa_cons (pv 0) (pa_cons pe_int pa_nil)))) pa_nil))) pa_nil)))))))
      (pss_one (ps_ret (pe_call (ok__law_added T) (hr.mono (by decide)) (by rfl) T.d__law_added.g T.d__law_added.F.kp T.d__law_added.b .nil pass0 (pa_cons (pv 3) pa_nil)))))), ?_⟩
    refine ⟨(by show 0 ≤ sizeLine; decide), fun p np => ?_⟩
    have pd := hd.new np
    refine ⟨_, rfl, _, rfl, _, _, rfl, rfl, d, s, k + 1, rfl, hd.mono (same_new np), by omega, by omega, fun n H1 n0 n1 s1 d1 => ⟨n, rfl, by omega, by omega, ?_⟩⟩
    have hp1 := s1 p _ pd.1 upd_same
    refine for_range (n := n.toNat) (fun i σ' H' => ∃ x4 x5 x6 ys ps, σ' = [some (.ref d), some (.int m), some (.int k), some (.ref p), x4, x5, x6] ∧ SameX d H H' ∧ Draw H' d s ∧ H' p = some (.lst ys) ∧ Paired (PairV H') ys ps ∧ ps.length = i ∧ ∀ q ∈ ps, 0 ≤ q.2 ∧ q.2 ≤ 2)
      ⟨_, _, _, [], [], rfl, (sameX_of (same_new np)).trans s1, d1, hp1, .nil, rfl, fun q hq => by simp at hq⟩ (fun i σ' H' hi n => ?_) fun σ' H' n => ?_
    · obtain ⟨x4, x5, x6, ys, ps, rfl, sx, dx, hp, py, lp, bp⟩ := n
      refine ⟨_, rfl, _, _, rfl, rfl, _, rfl, d, s, 24, rfl, dx, by omega, by omega, fun n2 H2 a0 a1 s2 d2 => ⟨_, _, rfl, rfl, ?_⟩⟩
      refine ⟨(by show 4 ≤ sizeLine; decide), fun l nl => ⟨_, rfl, d, s, 4, rfl, d2.mono (same_new nl), by omega, by omega, fun n3 H3 b0 b1 s3 d3 => ?_⟩⟩
      have hl := s3 l _ (d2.new nl).1 upd_same
      obtain ⟨c, _, hc⟩ := pick ([Str.ofString "a", Str.ofString "a", Str.ofString "b", Str.ofString "ab"]) V.str b0 b1
      refine ⟨l, _, n3, _, rfl, rfl, SqL.of hl, hc, ?_⟩
      have sA := s2.trans ((sameX_of (same_new (o := .lst [.str "a", .str "a", .str "b", .str "ab"]) nl)).trans s3)
      have hpA := sA p _ pd.1 hp
      refine ⟨_, rfl, .inl ⟨rfl, _, SqL.of hpA⟩, ?_⟩
      refine ⟨_, rfl, _, rfl, _, rfl, d, s, 11, rfl, d3, by omega, by omega, fun n4 H4 _ _ s4 d4 => ⟨_, _, rfl, rfl, (by show 3 ≤ sizeLine; decide), fun c1 hc1 => ?_⟩⟩
      refine ⟨_, rfl, d, s, 2, rfl, d4.mono (same_new hc1), by omega, by omega, fun n5 H5 e0 e1 s5 d5 => ⟨_, _, rfl, rfl, (by show 2 ≤ sizeLine; decide), fun b1 hb1 => ?_⟩⟩
      have sB := sA.trans (s4.trans ((sameX_of (same_new (o := .tup [.int (m - 18 + n2), .str c, .int (n4 - 5)]) hc1)).trans s5))
      have hrow : RowA H5 c1 (m - 18 + n2, c, n4 - 5) := s5 c1 _ (d4.new hc1).1 upd_same
      obtain ⟨g1, g2, g3, g4⟩ := put_pair (n := 1 + n5) (sx.trans sB) d5 np pd (sB p _ pd.1 hp) (pmap py fun _ _ z => z.mono (tupX dx sB)) hrow hb1
      refine ⟨p, ys, _, rfl, rfl, g1, small1000 (by rw [Paired.length py]; omega), ?_⟩
      refine ⟨_, _, _, _, _, rfl, g2, g3, upd_same, g4, by rw [List.length_append, lp]; rfl, fun q hq => ?_⟩
      rcases List.mem_append.mp hq with z | z
      · exact bp q z
      · rw [List.mem_singleton.mp z]
        show 0 ≤ 1 + n5 ∧ 1 + n5 ≤ 2
        omega
    · obtain ⟨x4, x5, x6, ys, ps, rfl, sx, dx, hp, py, lp, bp⟩ := n
      refine ⟨_, rfl, _, ps, rfl, ⟨p, ys, rfl, hp, py⟩, by omega, fun u H2 l s2 bl cl el ll => ?_⟩
      refine q u H2 l (sx.trans (sameX_of s2)) (dx.mono s2) bl cl (fun z hz => ?_) (by omega)
      have h1 := cl.mem_cnt ltP_irr hz
      have h2 := cl.nz z hz
      obtain ⟨h3, h4⟩ := cnt_bd bp z.1
      rw [el] at h1
      rw [lp] at h4
      omega
def spChg : Sp := fun vs H Q _ => ∃ d s v B m, vs = [.ref d, v, .int m] ∧ Draw H d s ∧ BagV H v B ∧ Can B ∧ (∀ q ∈ B, 0 < q.2 ∧ q.2 ≤ 20) ∧ B.length ≤ 10 ∧
  ∀ u H' C, SameX d H H' → Draw H' d s → BagV H' u C → Can C → (∀ r, Td.cnt C r ≠ 0 → m ≤ r.1) → (∀ r, 0 ≤ Td.cnt B r + Td.cnt C r ∧ Td.cnt C r ≤ 6) → C.length ≤ 13 → Q u H'
theorem cnt_time {m : Int} {ps : List (Row × Int)} (h : ∀ q ∈ ps, m ≤ q.1.1) {r : Row} (n : Td.cnt ps r ≠ 0) : m ≤ r.1 := by
  obtain ⟨p, hp, e⟩ := Td.Canon.cnt_mem n
  rw [← e]
  exact h p hp
theorem cnt_one (p : Row × Int) (r : Row) : Td.cnt [p] r = if p.1 = r then p.2 else 0 := by
  rw [Td.cnt_cons, Td.cnt_nil]
  exact Int.add_zero _
theorem sc__law_changes : FnScope ["_law_draw_here", "_law_bag_here", "_law_mark_here", "_law_pairs", "_law_row", "_law_count", "_law_k", "_law_key"] ["_law_draw_here", "_law_bag_here", "_law_mark_here"] (defScope (topS 46)) := ⟨rfl, rfl, rfl, by decide +kernel, rfl, by decide +kernel, by decide +kernel⟩
theorem ok__law_changes (T : Txt K mg) : FnOk P w K mg base CX0 2 T.d__law_changes.f T.d__law_changes.fd ["_law_draw_here", "_law_bag_here", "_law_mark_here"] spChg := by
  refine T.d__law_changes.F.ok sc__law_changes (fun vs H Q E h => ?_) (fun cdv A outer s0 H vs Q E hr h => ?_)
  · obtain ⟨_, _, _, _, _, rfl, _⟩ := h
    rfl
  · obtain ⟨d, s, v, B, m, rfl, hd, ⟨a, xs, rfl, ha, hpx⟩, cB, bB, lB, q⟩ := h
    refine ⟨_, (pss_cons (ps_set (i := 3) sc__law_changes.nd rfl (Or.inl rfl) (pe_lst pa_nil))
      (pss_cons (ps_for PassesOwn.never rfl (pi_list (pv 1)) (pgTup K 2 rfl (pgs_cons (pg_name (i := 4) sc__law_changes.nd rfl (Or.inl rfl)) (pgs_cons (pg_name (i := 5) sc__law_changes.nd rfl (Or.inl rfl)) pgs_nil)))
        (pss_one (ps_if (PW.pt (pw_and (pt_cmpR op_ge (pe_ix (ixT K) (pv 4) pe_int (fun _ _ => rfl)) (pv 2) (nomark _)) (pw_and1 (pt_cmpR op_eq (pe_call (ok__law_next T) (hr.mono (by decide)) (by rfl) T.d__law_next.g T.d__law_next.F.kp T.d__law_next.b .nil pass0 (pa_cons (pv 0) (pa_cons pe_int pa_nil))) pe_int (nomark _)))))
          (pss_one (ps_expr (pe_bm PySem.F.plainAttrs_list PySem.F.slot_list_append PySem.F.type_list_append mt_append (pv 3) (pa_cons (pe_tup (pa_cons (pv 4) (pa_cons (pe_op op_sub (pe_un un_neg pe_int) (pe_call (ok__law_next T) (hr.mono (by decide)) (by rfl) T.d__law_next.g T.d__law_next.F.kp T.d__law_next.b .nil pass0 (pa_cons (pv 0) (pa_cons (pv 5) pa_nil)))) pa_nil))) pa_nil))))
          pss_nil)))
      (pss_cons (ps_for PassesOwn.never rfl (pi_range1 (by rfl) T.z_range (pa_cons (pe_call (ok__law_next T) (hr.mono (by decide)) (by rfl) T.d__law_next.g T.d__law_next.F.kp T.d__law_next.b .nil pass0 (pa_cons (pv 0) (pa_cons pe_int pa_nil))) pa_nil)) (pg_name (i := 6) sc__law_changes.nd rfl (Or.inl rfl))
        (pss_cons (ps_set (i := 7) sc__law_changes.nd rfl (Or.inl rfl) (pe_ix (ixL K) (pe_lst (pa_cons pe_str (pa_cons pe_str (pa_cons pe_str (pa_cons pe_str pa_nil))))) (pe_call (ok__law_next T) (hr.mono (by decide)) (by rfl) T.d__law_next.g T.d__law_next.F.kp T.d__law_next.b .nil pass0 (pa_cons (pv 0) (pa_cons pe_int pa_nil))) (fun _ _ => rfl)))
        (pss_one (ps_expr (pe_bm PySem.F.plainAttrs_list PySem.F.slot_list_append PySem.F.type_list_append mt_append (pv 3) (pa_cons (pe_tup (pa_cons (pe_tup (pa_cons (pe_op op_add (pv 2) (pe_call (ok__law_next T) (hr.mono (by decide)) (by rfl) T.d__law_next.g T.d__law_next.F.kp T.d__law_next.b .nil pass0 (pa_cons (pv 0) (pa_cons pe_int pa_nil)))) (pa_cons (pv 7) (pa_cons (pe_op op_sub (pe_call (ok__law_next T) (hr.mono (by decide)) (by rfl) T.d__law_next.g T.d__law_next.F.kp T.d__law_next.b .nil pass0 (pa_cons (pv 0) (pa_cons pe_int pa_nil))) pe_int) pa_nil)))) (pa_cons (pe_op op_add pe_int (pe_call (ok__law_next T) (hr.mono (by decide)) (by rfl) T.d__law_next.g T.d__law_next.F.kp T.d__law_next.b .nil pass0 (pa_cons (pv 0) (pa_cons pe_int pa_nil)))) pa_nil))) pa_nil))))))
      (pss_one (ps_ret (pe_call (ok__law_added T) (hr.mono (by decide)) (by rfl) T.d__law_added.g T.d__law_added.F.kp T.d__law_added.b .nil pass0 (pa_cons (pv 3) pa_nil))))))), ?_⟩
    have ad : a ≠ d := lst_ne hd ha fun x hx => by
      obtain ⟨y, _, b, c, e, _⟩ := pair_all hpx x hx
      exact ⟨b, e⟩
    refine ⟨(by show 0 ≤ sizeLine; decide), fun p np => ?_⟩
    have pd := hd.new np
    refine ⟨_, rfl, a, rfl, ⟨_, SqL.of (same_new np _ _ ha)⟩, ?_⟩
    refine for_pl (l := B) (F := PairV) (xs := xs) (fun dn σ' H' => ∃ x4 x5 x6 x7 ys ps, σ' = [some (.ref d), some (.ref a), some (.int m), some (.ref p), x4, x5, x6, x7] ∧ SameX d H H' ∧ Draw H' d s ∧ H' p = some (.lst ys) ∧ Paired (PairV H') ys ps ∧ ps.length ≤ dn.length ∧ (∀ q ∈ ps, m ≤ q.1.1) ∧ ∀ r, -(Td.cnt dn r) ≤ Td.cnt ps r ∧ Td.cnt ps r ≤ 0)
      ⟨_, _, _, _, [], [], rfl, sameX_of (same_new np), hd.mono (same_new np), upd_same, .nil, Nat.le_refl _, fun q hq => by simp at hq, fun r => by rw [Td.cnt_nil]; omega⟩ (fun dn σ' H' n => ?_) (fun dn y r x σ' H' el fx n => ?_) fun σ' H' n => ?_
    · obtain ⟨_, _, _, _, _, _, _, sx, dx, _⟩ := n
      exact ⟨SqL.of (sx a _ ad ha), pmap hpx fun _ _ z => z.mono (tupX hd sx)⟩
    · obtain ⟨x4, x5, x6, x7, ys, ps, rfl, sx, dx, hp, py, lp, tp, bp⟩ := n
      obtain ⟨b, c, rfl, hb, hc⟩ := fx
      have ym : y ∈ B := by rw [el]; exact List.mem_append_right _ (List.mem_cons_self ..)
      have yb := bB y ym
      have dl : dn.length < 10 := by
        have := congrArg List.length el
        rw [List.length_append, List.length_cons] at this
        omega
      have skip : ∀ r, -(Td.cnt (dn ++ [y]) r) ≤ Td.cnt ps r ∧ Td.cnt ps r ≤ 0 := fun r => by
        have := bp r
        rw [Td.cnt_append, cnt_one]
        split <;> omega
      refine ⟨b, _, rfl, SqT.of hb, rfl, _, _, rfl, _, _, rfl, rfl, ?_⟩
      refine ⟨_, rfl, _, _, _, _, rfl, rfl, SqT.of hc, rfl, _, rfl, _, _, rfl, rfl, _, rfl, ite2 (fun e => ?_) fun e => ?_⟩
      · refine ⟨_, rfl, d, s, 3, rfl, dx, by omega, by omega, fun n2 H2 _ _ s2 d2 => ⟨rfl, _, rfl, ite2 (fun _ => ?_) fun _ => ?_⟩⟩
        · refine ⟨_, rfl, .inl ⟨rfl, _, SqL.of (s2 p _ pd.1 hp)⟩, ?_⟩
          refine ⟨_, rfl, _, rfl, _, rfl, _, rfl, d, s, y.2, rfl, d2, by omega, by omega, fun n3 H3 a0 a1 s3 d3 => ⟨_, _, rfl, rfl, (by show 2 ≤ sizeLine; decide), fun b1 hb1 => ?_⟩⟩
          have sB := s2.trans s3
          have hrow : RowA H3 c y.1 := RowA.mono (tupX dx sB) hc
          obtain ⟨g1, g2, g3, g4⟩ := put_pair (n := -1 - n3) (sx.trans sB) d3 np pd (sB p _ pd.1 hp) (pmap py fun _ _ z => z.mono (tupX dx sB)) hrow hb1
          refine ⟨p, ys, _, rfl, rfl, g1, small1000 (by rw [Paired.length py]; omega), ?_⟩
          refine ⟨_, _, _, _, _, _, rfl, g2, g3, upd_same, g4, ?_, fun q hq => ?_, fun r => ?_⟩
          · rw [List.length_append, List.length_append]
            exact Nat.succ_le_succ lp
          · rcases List.mem_append.mp hq with z | z
            · exact tp q z
            · rw [List.mem_singleton.mp z]
              exact of_decide_eq_true e
          · have := bp r
            rw [Td.cnt_append, Td.cnt_append, cnt_one, cnt_one]
            by_cases z : y.1 = r
            · rw [if_pos z, if_pos (show ((y.1, -1 - n3) : Row × Int).1 = r from z)]
              show _ ≤ _ + (-1 - n3) ∧ _ + (-1 - n3) ≤ 0
              omega
            · rw [if_neg z, if_neg (show ¬ ((y.1, -1 - n3) : Row × Int).1 = r from z)]
              omega
        · exact ⟨_, _, _, _, ys, ps, rfl, sx.trans s2, d2, s2 p _ pd.1 hp, pmap py fun _ _ z => z.mono (tupX dx s2), by rw [List.length_append]; omega, tp, skip⟩
      · exact ⟨_, _, _, _, ys, ps, rfl, sx, dx, hp, py, by rw [List.length_append]; omega, tp, skip⟩
    · obtain ⟨x4, x5, x6, x7, ys, ps, rfl, sx, dx, hp, py, lp, tp, bp⟩ := n
      refine ⟨_, rfl, d, s, 4, rfl, dx, by omega, by omega, fun n H1 n0 n1 s1 d1 => ⟨n, rfl, by omega, by omega, ?_⟩⟩
      refine for_range (n := n.toNat) (fun i σ' H2 => ∃ x4 x5 x6 x7 ys ps, σ' = [some (.ref d), some (.ref a), some (.int m), some (.ref p), x4, x5, x6, x7] ∧ SameX d H H2 ∧ Draw H2 d s ∧ H2 p = some (.lst ys) ∧ Paired (PairV H2) ys ps ∧ ps.length ≤ B.length + i ∧ (∀ q ∈ ps, m ≤ q.1.1) ∧ ∀ r, -(Td.cnt B r) ≤ Td.cnt ps r ∧ Td.cnt ps r ≤ 2 * (i : Int))
        ⟨_, _, _, _, ys, ps, rfl, sx.trans s1, d1, s1 p _ pd.1 hp, pmap py fun _ _ z => z.mono (tupX dx s1), by omega, tp, fun r => by have := bp r; omega⟩ (fun i σ' H2 hi n => ?_) fun σ' H2 n => ?_
      · obtain ⟨x4, x5, x6, x7, ys, ps, rfl, sx, dx, hp, py, lp, tp, bp⟩ := n
        have hi' : i < 4 := by omega
        refine ⟨(by show 4 ≤ sizeLine; decide), fun l nl => ⟨_, rfl, d, s, 4, rfl, dx.mono (same_new nl), by omega, by omega, fun n3 H3 b0 b1 s3 d3 => ?_⟩⟩
        have hl := s3 l _ (dx.new nl).1 upd_same
        obtain ⟨c, _, hc⟩ := pick ([Str.ofString "a", Str.ofString "a", Str.ofString "b", Str.ofString "ab"]) V.str b0 b1
        refine ⟨l, _, n3, _, rfl, rfl, SqL.of hl, hc, ?_⟩
        have sA := (sameX_of (d := d) (same_new (o := .lst [.str "a", .str "a", .str "b", .str "ab"]) nl)).trans s3
        have hpA := sA p _ pd.1 hp
        refine ⟨_, rfl, .inl ⟨rfl, _, SqL.of hpA⟩, ?_⟩
        refine ⟨_, rfl, _, rfl, d, s, 12, rfl, d3, by omega, by omega, fun n6 H6 f0 f1 s6 d6 => ⟨_, _, rfl, rfl, ?_⟩⟩
        refine ⟨_, rfl, _, rfl, d, s, 13, rfl, d6, by omega, by omega, fun n4 H4 _ _ s4 d4 => ⟨_, _, rfl, rfl, (by show 3 ≤ sizeLine; decide), fun c1 hc1 => ?_⟩⟩
        refine ⟨_, rfl, d, s, 2, rfl, d4.mono (same_new hc1), by omega, by omega, fun n5 H5 e0 e1 s5 d5 => ⟨_, _, rfl, rfl, (by show 2 ≤ sizeLine; decide), fun b1 hb1 => ?_⟩⟩
        have sB := sA.trans (s6.trans (s4.trans ((sameX_of (same_new (o := .tup [.int (m + n6), .str c, .int (n4 - 6)]) hc1)).trans s5)))
        have hrow : RowA H5 c1 (m + n6, c, n4 - 6) := s5 c1 _ (d4.new hc1).1 upd_same
        obtain ⟨g1, g2, g3, g4⟩ := put_pair (n := 1 + n5) (sx.trans sB) d5 np pd (sB p _ pd.1 hp) (pmap py fun _ _ z => z.mono (tupX dx sB)) hrow hb1
        refine ⟨p, ys, _, rfl, rfl, g1, small1000 (by rw [Paired.length py]; omega), ?_⟩
        refine ⟨_, _, _, _, _, _, rfl, g2, g3, upd_same, g4, ?_, fun q hq => ?_, fun r => ?_⟩
        · rw [List.length_append, List.length_singleton]
          omega
        · rcases List.mem_append.mp hq with z | z
          · exact tp q z
          · rw [List.mem_singleton.mp z]
            show m ≤ m + n6
            omega
        · have := bp r
          rw [Td.cnt_append, cnt_one]
          have e2 : (((m + n6, c, n4 - 6), 1 + n5) : Row × Int).2 = 1 + n5 := rfl
          rw [e2]
          split <;> omega
      · obtain ⟨x4, x5, x6, x7, ys, ps, rfl, sx, dx, hp, py, lp, tp, bp⟩ := n
        refine ⟨_, rfl, _, ps, rfl, ⟨p, ys, rfl, hp, py⟩, by omega, fun u H3 l s2 bl cl el ll => ?_⟩
        refine q u H3 l (sx.trans (sameX_of s2)) (dx.mono s2) bl cl (fun r h => ?_) (fun r => ?_) (by omega)
        · rw [el] at h
          exact cnt_time tp h
        · rw [el]
          have := bp r
          omega
end
end L2.K21
namespace L2.K21
open PySem PySem.Spec PyProof.Rows
open TdS (RowA ltR SortedOf)
section
variable {P : Program} {w : World} {K : PySem.W.Frag} {mg : PySem.Str → Option Value} {base : Heap}
/-- two values that are the same data, n deep -/
def Leaf (x y : V) : Prop := (∃ i : Int, x = .int i ∧ y = .int i) ∨ ∃ s : PySem.Str, x = .str s ∧ y = .str s
def Eqv (H : Hp) : Nat → V → V → Prop
  | 0, x, y => Leaf x y
  | n + 1, x, y => Leaf x y ∨ ∃ a b xs ys, x = .ref a ∧ y = .ref b ∧ ((H a = some (.lst xs) ∧ H b = some (.lst ys)) ∨ (H a = some (.tup xs) ∧ H b = some (.tup ys))) ∧ xs.length ≤ 1000 ∧ Paired (Eqv H n) xs ys
theorem Eqv.mono {H H' : Hp} (s : Same H H') : ∀ {n : Nat} {x y : V}, Eqv H n x y → Eqv H' n x y
  | 0, _, _, h => h
  | n + 1, _, _, .inl h => .inl h
  | n + 1, _, _, .inr ⟨a, b, xs, ys, e1, e2, h, l, p⟩ => .inr ⟨a, b, xs, ys, e1, e2, h.imp (fun h => ⟨s _ _ h.1, s _ _ h.2⟩) (fun h => ⟨s _ _ h.1, s _ _ h.2⟩), l, pmap p fun _ _ q => Eqv.mono s q⟩
def spS : Nat → Sp
  | 0 => fun _ _ _ _ => False
  | n + 1 => fun vs H Q _ => ∃ x y, vs = [x, y] ∧ Eqv H n x y ∧ ∀ H', Same H H' → Q (.bl true) H'
theorem ixQ {X : Cx} (K : PySem.W.Frag) (h : X.K = K := by rfl) : IxR X (rIx K) := by
  subst h
  exact ix_seq
theorem kitL {K : PySem.W.Frag} : PySem.W.kitAny K (.type "list") [.type "list", .type "tuple"] = some true := kitAny_cons (kit_ty (r := true) (by decide +kernel)) (fun h => by cases h) fun _ => rfl
theorem kitT {K : PySem.W.Frag} : PySem.W.kitAny K (.type "tuple") [.type "list", .type "tuple"] = some true := kitAny_cons (kit_ty (r := false) (by decide +kernel)) (fun _ => kitAny_cons (kit_ty (r := true) (by decide +kernel)) (fun h => by cases h) fun _ => rfl) fun h => by cases h
theorem kitI {K : PySem.W.Frag} : PySem.W.kitAny K (.type "int") [.type "list", .type "tuple"] = some false := kitAny_cons (kit_ty (r := false) (by decide +kernel)) (fun _ => kitAny_cons (kit_ty (r := false) (by decide +kernel)) (fun _ => kitAny_nil) fun h => by cases h) fun h => by cases h
theorem kitS {K : PySem.W.Frag} : PySem.W.kitAny K (.type "str") [.type "list", .type "tuple"] = some false := kitAny_cons (kit_ty (r := false) (by decide +kernel)) (fun _ => kitAny_cons (kit_ty (r := false) (by decide +kernel)) (fun _ => kitAny_nil) fun h => by cases h) fun h => by cases h
theorem clsLT : Paired ClsV [V.ty "list", V.ty "tuple"] [Value.type "list", Value.type "tuple"] := .cons (.ty _) (.cons (.ty _) .nil)
theorem none_left {f : Addr} {fd : FuncData} : FnOk P w K mg base CX0 0 f fd ["_law_actual", "_law_due"] (spS 0) :=
  ⟨fun vs H Q E h => absurd h id, fun A outer s H args us vs Q E _ _ _ _ h => absurd h id⟩
theorem sc__law_same : FnScope ["_law_actual", "_law_due", "_law_k"] ["_law_actual", "_law_due"] (defScope (topS 33)) := ⟨rfl, rfl, rfl, by decide +kernel, rfl, by decide +kernel, by decide +kernel⟩
theorem same_step (T : Txt K mg) {n : Nat} (ih : FnOk P w K mg base CX0 n T.d__law_same.f T.d__law_same.fd ["_law_actual", "_law_due"] (spS n)) : FnOk P w K mg base CX0 (n + 1) T.d__law_same.f T.d__law_same.fd ["_law_actual", "_law_due"] (spS (n + 1)) := by
  refine T.d__law_same.F.ok sc__law_same (fun vs H Q E h => ?_) (fun cdv A outer s0 H vs Q E hr h => ?_)
  · obtain ⟨_, _, rfl, _⟩ := h
    rfl
  · obtain ⟨x, y, rfl, hxy, q⟩ := h
    refine ⟨_, (pss_cons (ps_if (pt_val (pe_callB call_isiT (by rfl) T.z_isinstance (by decide +kernel) (pa_cons (pv 1) (pa_cons (pe_tup (pa_cons (pe_bltn (v := .ty "list") (by rfl) T.z_list (by decide +kernel) rfl) (pa_cons (pe_bltn (v := .ty "tuple") (by rfl) T.z_tuple (by decide +kernel) rfl) pa_nil))) pa_nil))))
        (pss_cons (ps_if (PW.pt (pw_or (pt_cmpR op_ne (pe_callB call_isi (by rfl) T.z_isinstance (by decide +kernel) (pa_cons (pv 1) (pa_cons (pe_bltn (v := .ty "list") (by rfl) T.z_list (by decide +kernel) rfl) pa_nil))) (pe_callB call_isi (by rfl) T.z_isinstance (by decide +kernel) (pa_cons (pv 0) (pa_cons (pe_bltn (v := .ty "list") (by rfl) T.z_list (by decide +kernel) rfl) pa_nil))) (nomark _)) (pw_or1 (pt_cmpR op_ne (pe_callB call_isi (by rfl) T.z_isinstance (by decide +kernel) (pa_cons (pv 1) (pa_cons (pe_bltn (v := .ty "tuple") (by rfl) T.z_tuple (by decide +kernel) rfl) pa_nil))) (pe_callB call_isi (by rfl) T.z_isinstance (by decide +kernel) (pa_cons (pv 0) (pa_cons (pe_bltn (v := .ty "tuple") (by rfl) T.z_tuple (by decide +kernel) rfl) pa_nil))) (nomark _)))))
          (pss_one (ps_ret pe_bl))
          pss_nil)
        (pss_cons (ps_if (pt_cmpR op_ne (pe_callB call_len_seq (by rfl) T.z_len (by decide +kernel) (pa_cons (pv 0) pa_nil)) (pe_callB call_len_seq (by rfl) T.z_len (by decide +kernel) (pa_cons (pv 1) pa_nil)) (nomark _))
          (pss_one (ps_ret pe_bl))
          pss_nil)
        (pss_one (ps_ret (pe_callB (cr_all rfl) (by rfl) T.z_all (by decide +kernel) (pa_cons (pe_lc (own := [("_law_k", 2)]) (by rfl) sc__law_same.nd (pi_range1 (by rfl) T.z_range (pa_cons (pe_callB call_len_seq (by rfl) T.z_len (by decide +kernel) (pa_cons (pv 1) pa_nil)) pa_nil)) (blkOk_by (own := [("_law_k", 2)]) (N := ["_law_actual", "_law_due", "_law_k"]) (sc := defScope (topS 33)) (by decide +kernel)) (fun _ _ _ _ _ => (pg_name (i := 2) sc__law_same.nd rfl (Or.inl rfl))) (fun _ _ _ _ _ => pts_nil) (fun _ _ _ _ _ => (pe_call ih hr (by rfl) T.d__law_same.g T.d__law_same.F.kp T.d__law_same.b .nil pass0 (pa_cons (pe_ix (ixQ K) (pv 0) (pv 2) (fun _ _ => rfl)) (pa_cons (pe_ix (ixQ K) (pv 1) (pv 2) (fun _ _ => rfl)) pa_nil))))) pa_nil))))))
        pss_nil)
      (pss_cons (ps_if (pt_cmpR op_isN (pv 1) pe_non (nomark _))
        (pss_one (ps_ret (pe_cmpR op_isN (pv 0) pe_non (nomark _))))
        pss_nil)
      (pss_cons (ps_if (pt_cmpR op_ne (pe_callB call_isi (by rfl) T.z_isinstance (by decide +kernel) (pa_cons (pv 1) (pa_cons (pe_bltn (v := .ty "bool") (by rfl) T.z_bool (by decide +kernel) rfl) pa_nil))) (pe_callB call_isi (by rfl) T.z_isinstance (by decide +kernel) (pa_cons (pv 0) (pa_cons (pe_bltn (v := .ty "bool") (by rfl) T.z_bool (by decide +kernel) rfl) pa_nil))) (nomark _))
        (pss_one (ps_ret pe_bl))
        pss_nil)
      (pss_cons (ps_if (pt_val (pe_callB call_isi (by rfl) T.z_isinstance (by decide +kernel) (pa_cons (pv 1) (pa_cons (pe_bltn (v := .ty "str") (by rfl) T.z_str (by decide +kernel) rfl) pa_nil))))
        (pss_one (ps_ret (pe_and (pe_callB call_isi (by rfl) T.z_isinstance (by decide +kernel) (pa_cons (pv 0) (pa_cons (pe_bltn (v := .ty "str") (by rfl) T.z_str (by decide +kernel) rfl) pa_nil))) (pe_one (pe_cmpR op_eq (pv 0) (pv 1) (nomark _))))))
        pss_nil)
      (pss_one (ps_ret (pe_and (pe_callB call_isi (by rfl) T.z_isinstance (by decide +kernel) (pa_cons (pv 0) (pa_cons (pe_bltn (v := .ty "int") (by rfl) T.z_int (by decide +kernel) rfl) pa_nil))) (pe_one (pe_cmpR op_eq (pv 0) (pv 1) (nomark _)))))))))), ?_⟩
    have leaf : Leaf x y ∨ ∃ k, n = k + 1 ∧ ∃ a b xs ys, x = .ref a ∧ y = .ref b ∧ ((H a = some (.lst xs) ∧ H b = some (.lst ys)) ∨ (H a = some (.tup xs) ∧ H b = some (.tup ys))) ∧ xs.length ≤ 1000 ∧ Paired (Eqv H k) xs ys := by
      cases n with
      | zero => exact .inl hxy
      | succ k =>
        rcases hxy with h | h
        · exact .inl h
        · exact .inr ⟨k, rfl, h⟩
    rcases leaf with (⟨i, rfl, rfl⟩ | ⟨z, rfl, rfl⟩) | ⟨k, rfl, a, b, xs, ys, rfl, rfl, (⟨ha, hb⟩ | ⟨ha, hb⟩), lx, hp⟩
    · refine ⟨_, rfl, (by show 2 ≤ sizeLine; decide), fun tp ntp => ⟨_, tp, _, _, _, _, rfl, upd_same, clsLT, .base (.int _), kitI, _, rfl, iteF ?_⟩⟩
      refine ⟨_, rfl, rfl, _, rfl, iteF ?_⟩
      refine ⟨_, rfl, _, _, _, _, _, rfl, .ty _, .base (.int _), kit_ty (r := false) (by decide +kernel), _, rfl, _, _, _, _, _, rfl, .ty _, .base (.int _), kit_ty (r := false) (by decide +kernel), rfl, _, rfl, iteF ?_⟩
      refine ⟨_, rfl, _, _, _, _, _, rfl, .ty _, .base (.int _), kit_ty (r := false) (by decide +kernel), _, rfl, iteF ?_⟩
      refine ⟨_, rfl, _, _, _, _, _, rfl, .ty _, .base (.int _), kit_ty (r := true) (by decide +kernel), _, rfl, iteT ⟨_, rfl, _, rfl, rfl, ?_⟩⟩
      rw [decide_eq_true (rfl : V.int i = V.int i)]
      exact q _ (same_new ntp)
    · refine ⟨_, rfl, (by show 2 ≤ sizeLine; decide), fun tp ntp => ⟨_, tp, _, _, _, _, rfl, upd_same, clsLT, .base (.str _), kitS, _, rfl, iteF ?_⟩⟩
      refine ⟨_, rfl, rfl, _, rfl, iteF ?_⟩
      refine ⟨_, rfl, _, _, _, _, _, rfl, .ty _, .base (.str _), kit_ty (r := false) (by decide +kernel), _, rfl, _, _, _, _, _, rfl, .ty _, .base (.str _), kit_ty (r := false) (by decide +kernel), rfl, _, rfl, iteF ?_⟩
      refine ⟨_, rfl, _, _, _, _, _, rfl, .ty _, .base (.str _), kit_ty (r := true) (by decide +kernel), _, rfl, iteT ?_⟩
      refine ⟨_, rfl, _, _, _, _, _, rfl, .ty _, .base (.str _), kit_ty (r := true) (by decide +kernel), _, rfl, iteT ⟨_, rfl, _, rfl, rfl, ?_⟩⟩
      rw [decide_eq_true (rfl : V.str z = V.str z)]
      exact q _ (same_new ntp)
    · refine ⟨_, rfl, (by show 2 ≤ sizeLine; decide), fun tp ntp => ?_⟩
      have s1 := same_new (o := .tup [.ty "list", .ty "tuple"]) ntp
      have ha1 := s1 _ _ ha
      have hb1 := s1 _ _ hb
      refine ⟨_, tp, _, _, _, _, rfl, upd_same, clsLT, .base (.lst hb1), kitL, _, rfl, iteT ?_⟩
      refine ⟨_, rfl, _, _, _, _, _, rfl, .ty _, .base (.lst hb1), kit_ty (r := true) (by decide +kernel), _, rfl, _, _, _, _, _, rfl, .ty _, .base (.lst ha1), kit_ty (r := true) (by decide +kernel), rfl, _, rfl, iteF ?_⟩
      refine ⟨_, rfl, _, _, _, _, _, rfl, .ty _, .base (.lst hb1), kit_ty (r := false) (by decide +kernel), _, rfl, _, _, _, _, _, rfl, .ty _, .base (.lst ha1), kit_ty (r := false) (by decide +kernel), rfl, _, rfl, iteF ?_⟩
      have lxy : xs.length = ys.length := Paired.length hp
      refine ⟨_, rfl, a, xs, rfl, .inl (SqL.of ha1), _, rfl, b, ys, rfl, .inl (SqL.of hb1), rfl, _, rfl, ?_⟩
      have el : (!decide (V.int (xs.length : Int) = V.int (ys.length : Int))) = false := by rw [lxy, decide_eq_true rfl]; rfl
      rw [el]
      refine iteF ⟨_, rfl, b, ys, rfl, .inl (SqL.of hb1), _, rfl, by omega, by omega, fun D nD => ?_⟩
      generalize upd H tp (.tup [.ty "list", .ty "tuple"]) = H1 at *
      refine lc_range (fun i H' => Same H1 H' ∧ H' D = some (.lst ((List.replicate i true).map V.bl))) ⟨same_new nD, upd_same⟩ (fun i H' hi p => ?_) fun H' p => ?_
      · obtain ⟨sm, hD⟩ := p
        have hi' : i < ys.length := hi
        have e0 : (0 : Int) + (i : Int) = (i : Int) := Int.zero_add _
        obtain ⟨u, hu, eu⟩ := pair_got hp (List.getElem?_eq_getElem hi')
        refine ⟨rfl, _, rfl, _, rfl, .inl ⟨a, xs, _, u, rfl, rfl, SqL.of (sm _ _ ha1), at_of e0 hu, _, rfl, _, rfl, .inl ⟨b, ys, _, ys[i], rfl, rfl, SqL.of (sm _ _ hb1), at_of e0 (List.getElem?_eq_getElem hi'), u, ys[i], rfl, Eqv.mono (s1.trans sm) eu, fun H2 s2 => ?_⟩⟩⟩
        refine ⟨_, s2 _ _ hD, small1000 (by rw [List.length_map, List.length_replicate]; omega), same_upd (sm.trans s2) nD, ?_⟩
        rw [upd_same, List.replicate_succ', List.map_append]
        rfl
      · obtain ⟨sm, hD⟩ := p
        refine ⟨D, List.replicate _ true, rfl, SqL.of hD, ?_⟩
        have e : (List.replicate (Int.toNat (ys.length : Int)) true).all id = true := by
          rw [List.all_replicate]
          simp
        rw [e]
        exact q _ (s1.trans sm)
    · refine ⟨_, rfl, (by show 2 ≤ sizeLine; decide), fun tp ntp => ?_⟩
      have s1 := same_new (o := .tup [.ty "list", .ty "tuple"]) ntp
      have ha1 := s1 _ _ ha
      have hb1 := s1 _ _ hb
      refine ⟨_, tp, _, _, _, _, rfl, upd_same, clsLT, .base (.tup hb1), kitT, _, rfl, iteT ?_⟩
      refine ⟨_, rfl, _, _, _, _, _, rfl, .ty _, .base (.tup hb1), kit_ty (r := false) (by decide +kernel), _, rfl, _, _, _, _, _, rfl, .ty _, .base (.tup ha1), kit_ty (r := false) (by decide +kernel), rfl, _, rfl, iteF ?_⟩
      refine ⟨_, rfl, _, _, _, _, _, rfl, .ty _, .base (.tup hb1), kit_ty (r := true) (by decide +kernel), _, rfl, _, _, _, _, _, rfl, .ty _, .base (.tup ha1), kit_ty (r := true) (by decide +kernel), rfl, _, rfl, iteF ?_⟩
      have lxy : xs.length = ys.length := Paired.length hp
      refine ⟨_, rfl, a, xs, rfl, .inr (SqT.of ha1), _, rfl, b, ys, rfl, .inr (SqT.of hb1), rfl, _, rfl, ?_⟩
      have el : (!decide (V.int (xs.length : Int) = V.int (ys.length : Int))) = false := by rw [lxy, decide_eq_true rfl]; rfl
      rw [el]
      refine iteF ⟨_, rfl, b, ys, rfl, .inr (SqT.of hb1), _, rfl, by omega, by omega, fun D nD => ?_⟩
      generalize upd H tp (.tup [.ty "list", .ty "tuple"]) = H1 at *
      refine lc_range (fun i H' => Same H1 H' ∧ H' D = some (.lst ((List.replicate i true).map V.bl))) ⟨same_new nD, upd_same⟩ (fun i H' hi p => ?_) fun H' p => ?_
      · obtain ⟨sm, hD⟩ := p
        have hi' : i < ys.length := hi
        have e0 : (0 : Int) + (i : Int) = (i : Int) := Int.zero_add _
        obtain ⟨u, hu, eu⟩ := pair_got hp (List.getElem?_eq_getElem hi')
        refine ⟨rfl, _, rfl, _, rfl, .inr (.inl ⟨a, xs, _, u, rfl, rfl, SqT.of (sm _ _ ha1), at_of e0 hu, _, rfl, _, rfl, .inr (.inl ⟨b, ys, _, ys[i], rfl, rfl, SqT.of (sm _ _ hb1), at_of e0 (List.getElem?_eq_getElem hi'), u, ys[i], rfl, Eqv.mono (s1.trans sm) eu, fun H2 s2 => ?_⟩)⟩)⟩
        refine ⟨_, s2 _ _ hD, small1000 (by rw [List.length_map, List.length_replicate]; omega), same_upd (sm.trans s2) nD, ?_⟩
        rw [upd_same, List.replicate_succ', List.map_append]
        rfl
      · obtain ⟨sm, hD⟩ := p
        refine ⟨D, List.replicate _ true, rfl, SqL.of hD, ?_⟩
        have e : (List.replicate (Int.toNat (ys.length : Int)) true).all id = true := by
          rw [List.all_replicate]
          simp
        rw [e]
        exact q _ (s1.trans sm)
theorem ok__law_same (T : Txt K mg) : ∀ n : Nat, FnOk P w K mg base CX0 n T.d__law_same.f T.d__law_same.fd ["_law_actual", "_law_due"] (spS n)
  | 0 => none_left
  | n + 1 => same_step T (ok__law_same T n)
theorem eqv_row {H : Hp} {u v : V} {p : Row × Int} (h1 : PairV H u p) (h2 : PairV H v p) : Eqv H 2 u v := by
  obtain ⟨a, b, rfl, a1, a2⟩ := h1
  obtain ⟨c, d, rfl, c1, c2⟩ := h2
  refine .inr ⟨a, c, _, _, rfl, rfl, .inr ⟨a1, c1⟩, (show 2 ≤ 1000 by decide), .cons ?_ (.cons (.inl (.inl ⟨p.2, rfl, rfl⟩)) .nil)⟩
  exact .inr ⟨b, d, _, _, rfl, rfl, .inr ⟨a2, c2⟩, (show 3 ≤ 1000 by decide), .cons (.inl ⟨_, rfl, rfl⟩) (.cons (.inr ⟨_, rfl, rfl⟩) (.cons (.inl ⟨_, rfl, rfl⟩) .nil))⟩
theorem eqv_bag {H : Hp} {u v : V} {l : List (Row × Int)} (hl : l.length ≤ 1000) (h1 : BagV H u l) (h2 : BagV H v l) : Eqv H 3 u v := by
  obtain ⟨a, xs, rfl, a1, a2⟩ := h1
  obtain ⟨c, ys, rfl, c1, c2⟩ := h2
  refine .inr ⟨a, c, xs, ys, rfl, rfl, .inl ⟨a1, c1⟩, by rw [Paired.length a2]; exact hl, ?_⟩
  have go : ∀ {xs ys : List V} {l : List (Row × Int)}, Paired (PairV H) xs l → Paired (PairV H) ys l → Paired (Eqv H 2) xs ys := by
    intro xs ys l p
    induction p generalizing ys with
    | nil => intro q; cases q; exact .nil
    | cons f t ih => intro q; cases q with | cons g r => exact .cons (eqv_row f g) (ih r)
  exact go a2 c2
end
end L2.K21
namespace L2.K21
open PySem PySem.Spec PyProof.Rows
open TdS (RowA ltR SortedOf)
section
variable {P : Program} {w : World} {K : PySem.W.Frag} {mg : PySem.Str → Option Value} {base : Heap}
/-! ### the plain law over bags -/
theorem can_time {l : List (Row × Int)} (h : Can l) : l.Pairwise fun p q => p.1.1 ≤ q.1.1 := h.srt.imp fun {p q} a => by
  rcases TdS.ltR_iff.mp a with z | ⟨z, _⟩ <;> omega
theorem partsK_app (a b : List (Row × Int)) (k : PySem.Str) : partsK (a ++ b) k = partsK a k ++ partsK b k := by
  unfold partsK
  rw [List.filter_append, List.map_append]
theorem ptOf_rows (k : PySem.Str) : ∀ l : List Td.Pt, (toRows k l).map ptOf = l
  | [] => rfl
  | p :: l => by
    have ih := ptOf_rows k l
    show ptOf ((p.1, k, p.2.1), p.2.2) :: (toRows k l).map ptOf = p :: l
    rw [ih]
    rfl
theorem can_kept {s : Sh} {g : Td.Ag} {gap m : Int} {l : List (Row × Int)} {k : PySem.Str} : Can (toRows k (keptK s g gap m l k)) := by
  cases h : keptK s g gap m l k with
  | nil => exact Td.Canon.nil
  | cons q t =>
    obtain ⟨p, v, _, e, hv⟩ := Td.keepG_of (s := swOf s) (g := g) (gap := gap) (w := m) (l := partsK (l.filter fun p => decide (p.1.1 < m)) k) (q := q) (by
      have : Td.keepG (swOf s) g gap m (partsK (l.filter fun p => decide (p.1.1 < m)) k) = q :: t := h
      rw [this]
      exact List.mem_cons_self ..)
    have e' : keptK s g gap m l k = [(p.1, v)] := e
    rw [← h, e']
    exact Td.Canon.one (r := (p.1, k, v.1)) (c := v.2) (by omega)
theorem cnt_key (k : PySem.Str) (l : List (Row × Int)) (r : Row) : Td.cnt (l.filter fun p => decide (p.1.2.1 = k)) r = if r.2.1 = k then Td.cnt l r else 0 := by
  rw [Td.cnt_filter (fun r : Row => decide (r.2.1 = k))]
  by_cases c : r.2.1 = k
  · rw [if_pos (decide_eq_true c), if_pos c]
  · rw [if_neg (by simpa using c), if_neg c]
theorem cnt_fin (m : Int) (l : List (Row × Int)) (r : Row) : Td.cnt (l.filter fun p => decide (p.1.1 < m)) r = if r.1 < m then Td.cnt l r else 0 := by
  rw [Td.cnt_filter (fun r : Row => decide (r.1 < m))]
  by_cases c : r.1 < m
  · rw [if_pos (decide_eq_true c), if_pos c]
  · rw [if_neg (by simpa using c), if_neg c]
theorem cnt_mid (m m' : Int) (l : List (Row × Int)) (r : Row) : Td.cnt (l.filter fun p => decide (m ≤ p.1.1 ∧ p.1.1 < m')) r = if m ≤ r.1 ∧ r.1 < m' then Td.cnt l r else 0 := by
  rw [Td.cnt_filter (fun r : Row => decide (m ≤ r.1 ∧ r.1 < m'))]
  by_cases c : m ≤ r.1 ∧ r.1 < m'
  · rw [if_pos (decide_eq_true c), if_pos c]
  · rw [if_neg (by simpa using c), if_neg c]
section
variable {s : Sh} {g : Td.Ag} {gap m m' : Int} {B C l1 L B2 : List (Row × Int)}
theorem kc_law (hw : m ≤ m') (cB : Can B) (pB : ∀ q ∈ B, 0 < q.2) (tC : ∀ r, Td.cnt C r ≠ 0 → m ≤ r.1) (pC : ∀ r, 0 ≤ Td.cnt B r + Td.cnt C r) (e1 : ∀ q, Td.cnt l1 q = kcS s g gap m B q)
    (cL : Can L) (eL : ∀ q, Td.cnt L q = Td.cnt l1 q + (if seenK s q.2.1 = true then Td.cnt C q else 0)) (c2 : Can B2) (e2 : ∀ q, Td.cnt B2 q = Td.cnt B q + Td.cnt C q) (q : Row) :
    kcS s g gap m' L q = kcS s g gap m' B2 q := by
  unfold kcS
  by_cases c : seenK s q.2.1 = true
  · rw [if_pos c, if_pos c]
    have late : ∀ r : Row, r.2.1 = q.2.1 → m ≤ r.1 → Td.cnt L r = Td.cnt B2 r := fun r hr hm => by
      rw [eL, e1, e2]
      unfold kcS
      rw [hr, if_pos c, if_pos hm, if_pos c]
    by_cases d : m' ≤ q.1
    · rw [if_pos d, if_pos d]
      exact late q rfl (by omega)
    · rw [if_neg d, if_neg d]
      have early : ∀ r : Row, r.1 < m → Td.cnt C r = 0 := fun r hr => Classical.byContradiction fun z => by
        have := tC r z
        omega
      have hF : B2.filter (fun p => decide (p.1.1 < m)) = B.filter fun p => decide (p.1.1 < m) := Td.canon_ext ltP_asym (c2.filter _) (cB.filter _) fun r => by
        rw [cnt_fin, cnt_fin]
        by_cases z : r.1 < m
        · rw [if_pos z, if_pos z, e2, early r z]
          exact Int.add_zero _
        · rw [if_neg z, if_neg z]
      have hG : partsK (L.filter fun p => decide (p.1.1 < m)) q.2.1 = keptK s g gap m B q.2.1 := by
        have := Td.canon_ext ltP_asym ((cL.filter fun p => decide (p.1.1 < m)).filter fun p => decide (p.1.2.1 = q.2.1)) (can_kept (s := s) (g := g) (gap := gap) (m := m) (l := B) (k := q.2.1)) fun r => by
          rw [cnt_key, cnt_fin]
          by_cases z : r.2.1 = q.2.1
          · rw [if_pos z]
            by_cases y : r.1 < m
            · rw [if_pos y, eL, e1, early r y]
              unfold kcS
              rw [z, if_pos c, if_neg (by omega), if_pos c]
              exact Int.add_zero _
            · rw [if_neg y, cnt_kept_late (by omega)]
          · rw [if_neg z, cnt_toRows_ne z]
        unfold partsK
        rw [this, ptOf_rows]
      have hM : partsK (L.filter fun p => decide (m ≤ p.1.1 ∧ p.1.1 < m')) q.2.1 = partsK (B2.filter fun p => decide (m ≤ p.1.1 ∧ p.1.1 < m')) q.2.1 := by
        have := Td.canon_ext ltP_asym ((cL.filter fun p => decide (m ≤ p.1.1 ∧ p.1.1 < m')).filter fun p => decide (p.1.2.1 = q.2.1)) ((c2.filter fun p => decide (m ≤ p.1.1 ∧ p.1.1 < m')).filter fun p => decide (p.1.2.1 = q.2.1)) fun r => by
          rw [cnt_key, cnt_key, cnt_mid, cnt_mid]
          by_cases z : r.2.1 = q.2.1
          · rw [if_pos z, if_pos z]
            by_cases y : m ≤ r.1 ∧ r.1 < m'
            · rw [if_pos y, if_pos y, late r z y.1]
            · rw [if_neg y, if_neg y]
          · rw [if_neg z, if_neg z]
        unfold partsK
        rw [this]
      have sp : ∀ l : List (Row × Int), Can l → partsK (l.filter fun p => decide (p.1.1 < m')) q.2.1 = partsK (l.filter fun p => decide (p.1.1 < m)) q.2.1 ++ partsK (l.filter fun p => decide (m ≤ p.1.1 ∧ p.1.1 < m')) q.2.1 := fun l hl => by
        rw [Td.filter_split hw (can_time hl), partsK_app]
      have key : keptK s g gap m' L q.2.1 = keptK s g gap m' B2 q.2.1 := by
        unfold keptK
        rw [sp L cL, sp B2 c2, hG, hM, hF]
        refine Td.keep_on (limS_pos s) hw (fun p hp => ?_) (fun p hp => ?_) fun p hp => ?_
        · obtain ⟨r, hr, _, e⟩ := partsK_mem hp
          rw [e]
          exact (of_decide_eq_true (List.mem_filter.mp hr).2).1
        · obtain ⟨r, hr, _, e⟩ := partsK_mem hp
          rw [e]
          exact pB r (List.mem_filter.mp hr).1
        · obtain ⟨r, hr, _, e⟩ := partsK_mem hp
          rw [e]
          exact c2.pos ltP_irr (fun z => by rw [e2]; exact pC z) r (List.mem_filter.mp hr).1
      rw [key]
  · rw [if_neg c, if_neg c]
end
/-! bounds of the counts -/
theorem num_le {N : Int} : ∀ {l : List Td.Pt}, (∀ p ∈ l, p.2.2 ≤ N) → Td.num l ≤ N * (l.length : Int)
  | [], _ => by show (0 : Int) ≤ _; simp
  | p :: l, h => by
    have h1 := h p (List.mem_cons_self ..)
    have ih := num_le fun q hq => h q (List.mem_cons_of_mem _ hq)
    show p.2.2 + Td.num l ≤ _
    rw [List.length_cons, Int.natCast_add, Int.mul_add]
    omega
theorem agg_le {s : Sh} {g : Td.Ag} {l : List Td.Pt} {v : Int × Int} (h : Td.aggV (swOf s) g l = some v) : v.2 ≤ 1 ∨ v.2 ≤ Td.num l := by
  cases g with
  | count =>
    have h' : (if 0 < Td.limit (limS s) (Td.num l) then some ((0 : Int), Td.limit (limS s) (Td.num l)) else none) = some v := h
    split at h'
    · cases h'
      refine .inr ?_
      cases limS s with
      | none => exact Int.le_refl _
      | some t =>
        show min t (Td.num l) ≤ Td.num l
        omega
    · cases h'
  | sum =>
    by_cases c : s.fac = 0 ∧ allS s = true
    · rw [agg_all c.1 c.2] at h
      cases h
      exact .inl (Int.le_refl _)
    · by_cases e : Td.tot l ≠ 0 ∨ inS s 0 = true
      · rw [agg_tot c e] at h
        cases h
        exact .inl (Int.le_refl _)
      · rw [agg_no c e] at h
        cases h
  | least =>
    obtain ⟨c, _, e⟩ := Option.map_eq_some_iff.mp h
    subst e
    exact .inl (Int.le_refl _)
  | greatest =>
    obtain ⟨c, _, e⟩ := Option.map_eq_some_iff.mp h
    subst e
    exact .inl (Int.le_refl _)
theorem kept_le {s : Sh} {g : Td.Ag} {gap m : Int} {B : List (Row × Int)} (bB : ∀ q ∈ B, 0 < q.2 ∧ q.2 ≤ 20) (lB : B.length ≤ 10) {k : PySem.Str} {p : Td.Pt} (h : p ∈ keptK s g gap m B k) : p.2.2 ≤ 200 := by
  unfold keptK at h
  cases hl : (partsK (B.filter fun p => decide (p.1.1 < m)) k).getLast? with
  | none =>
    unfold Td.keepG at h
    rw [hl] at h
    simp at h
  | some z =>
    rw [Td.keepG_last hl] at h
    split at h
    · cases ha : Td.aggV (swOf s) g (Td.lastSit gap (partsK (B.filter fun p => decide (p.1.1 < m)) k)) with
      | none => rw [ha] at h; simp [Td.rowOf] at h
      | some v =>
        rw [ha] at h
        have e : p = (z.1, v.1, v.2) := List.mem_singleton.mp h
        rw [e]
        show v.2 ≤ 200
        have n := num_le (N := 20) (l := Td.lastSit gap (partsK (B.filter fun p => decide (p.1.1 < m)) k)) fun p hp => by
          obtain ⟨r, hr, _, e⟩ := partsK_mem (Td.lastSit_sub gap p hp)
          rw [e]
          exact (bB r (List.mem_filter.mp hr).1).2
        have l1 := Td.lastSit_len gap (partsK (B.filter fun p => decide (p.1.1 < m)) k)
        have l2 := partsK_len (B.filter fun p => decide (p.1.1 < m)) k
        have l3 := List.length_filter_le (fun p : Row × Int => decide (p.1.1 < m)) B
        rcases agg_le ha with z | z <;> omega
    · simp at h
theorem kcS_bd {s : Sh} {g : Td.Ag} {gap m : Int} {B : List (Row × Int)} (cB : Can B) (bB : ∀ q ∈ B, 0 < q.2 ∧ q.2 ≤ 20) (lB : B.length ≤ 10) (q : Row) : 0 ≤ kcS s g gap m B q ∧ kcS s g gap m B q ≤ 200 := by
  unfold kcS
  by_cases c : seenK s q.2.1 = true
  · rw [if_pos c]
    by_cases d : m ≤ q.1
    · rw [if_pos d]
      by_cases z : Td.cnt B q = 0
      · rw [z]; omega
      · obtain ⟨p, hp, e⟩ := Td.Canon.cnt_mem z
        have := cB.mem_cnt ltP_irr hp
        rw [e] at this
        have := bB p hp
        omega
    · rw [if_neg d]
      by_cases z : Td.cnt (toRows q.2.1 (keptK s g gap m B q.2.1)) q = 0
      · rw [z]; omega
      · obtain ⟨p, hp, e⟩ := Td.Canon.cnt_mem z
        have h1 := can_kept.mem_cnt ltP_irr hp
        rw [e] at h1
        obtain ⟨x, hx, e2⟩ := List.mem_map.mp hp
        have h2 := (keptK_time hx).2
        have h3 := kept_le bB lB hx
        have h4 : p.2 = x.2.2 := by rw [← e2]
        omega
  · rw [if_neg c]
    omega
end
end L2.K21
namespace L2.K21
open PySem PySem.Spec PyProof.Rows
open TdS (RowA ltR SortedOf)
section
variable {P : Program} {w : World} {K : PySem.W.Frag} {mg : PySem.Str → Option Value} {base : Heap}
/-- a draw's list is not touched; what the law has made stays -/
def spLaw (K : PySem.W.Frag) : Sp := fun vs H Q _ => ∃ (a : Addr) (ns : List Int), vs = [.ref a] ∧ SqL K H a (ns.map V.int) ∧ ∀ H', Q (.bl true) H'
theorem sc_law : FnScope ["_law_script", "_law_draw_here", "_law_mark_here", "_law_gap", "_law_aggregate_here", "_law_show_here", "_law_bag_here", "_law_changes_here", "_law_later", "_law_kept", "_law_found"] ["_law_script"] (defScope (topS 51)) := ⟨rfl, rfl, rfl, by decide +kernel, rfl, by decide +kernel, by decide +kernel⟩
theorem kcO_law {so : Option Sh} {g : Td.Ag} {gap m m' : Int} {B C l1 L B2 : List (Row × Int)} (hw : m ≤ m') (cB : Can B) (pB : ∀ q ∈ B, 0 < q.2) (tC : ∀ r, Td.cnt C r ≠ 0 → m ≤ r.1) (pC : ∀ r, 0 ≤ Td.cnt B r + Td.cnt C r) (e1 : ∀ q, Td.cnt l1 q = kcO so g gap m B q)
    (cL : Can L) (eL : ∀ q, Td.cnt L q = Td.cnt l1 q + (if seenO so q.2.1 = true then Td.cnt C q else 0)) (c2 : Can B2) (e2 : ∀ q, Td.cnt B2 q = Td.cnt B q + Td.cnt C q) (q : Row) :
    kcO so g gap m' L q = kcO so g gap m' B2 q := by
  cases so with
  | none => rfl
  | some s => exact kc_law hw cB pB tC pC e1 cL eL c2 e2 q
theorem kcO_bd {so : Option Sh} {g : Td.Ag} {gap m : Int} {B : List (Row × Int)} (cB : Can B) (bB : ∀ q ∈ B, 0 < q.2 ∧ q.2 ≤ 20) (lB : B.length ≤ 10) (q : Row) : 0 ≤ kcO so g gap m B q ∧ kcO so g gap m B q ≤ 200 := by
  cases so with
  | none => exact ⟨Int.le_refl 0, (show (0 : Int) ≤ 200 by decide)⟩
  | some s => exact kcS_bd cB bB lB q
theorem kcO_late {so : Option Sh} {g : Td.Ag} {gap m : Int} {B : List (Row × Int)} {q : Row} (h : seenO so q.2.1 = true) (hm : m ≤ q.1) : kcO so g gap m B q = Td.cnt B q := by
  cases so with
  | none => cases h
  | some s =>
    show kcS s g gap m B q = _
    unfold kcS
    rw [if_pos (show seenK s q.2.1 = true from h), if_pos hm]
theorem cnt_seen (so : Option Sh) (C : List (Row × Int)) (q : Row) : Td.cnt (C.filter fun p => seenO so p.1.2.1) q = if seenO so q.2.1 = true then Td.cnt C q else 0 := Td.cnt_filter (fun r : Row => seenO so r.2.1) C q
theorem ok_law (T : Txt K mg) (D : DefAt K mg "law" (topS 51) ["_law_script"]) : FnOk P w K mg base CX0 9 D.f D.fd ["_law_script"] (spLaw K) := by
  refine D.F.ok sc_law (fun vs H Q E h => ?_) (fun cdv A outer s0 H vs Q E hr h => ?_)
  · obtain ⟨_, _, rfl, _⟩ := h
    rfl
  · obtain ⟨a, ns, rfl, hS, q⟩ := h
    refine ⟨_, (pss_cons (ps_set (i := 1) sc_law.nd rfl (Or.inl rfl) (pe_call (ok__law_draw T) (hr.mono (by decide)) (by rfl) T.d__law_draw.g T.d__law_draw.F.kp T.d__law_draw.b .nil pass0 (pa_cons (pv 0) pa_nil)))
      (pss_cons (ps_set (i := 2) sc_law.nd rfl (Or.inl rfl) (pe_call (ok__law_mark T) (hr.mono (by decide)) (by rfl) T.d__law_mark.g T.d__law_mark.F.kp T.d__law_mark.b .nil pass0 (pa_cons (pv 1) pa_nil)))
      (pss_cons (ps_set (i := 3) sc_law.nd rfl (Or.inl rfl) (pe_call (ok__law_next T) (hr.mono (by decide)) (by rfl) T.d__law_next.g T.d__law_next.F.kp T.d__law_next.b .nil pass0 (pa_cons (pv 1) (pa_cons pe_int pa_nil))))
      (pss_cons (ps_set (i := 4) sc_law.nd rfl (Or.inl rfl) (pe_call (ok__law_aggregate T) (hr.mono (by decide)) (by rfl) T.d__law_aggregate.g T.d__law_aggregate.F.kp T.d__law_aggregate.b .nil pass0 (pa_cons (pv 1) pa_nil)))
      (pss_cons (ps_set (i := 5) sc_law.nd rfl (Or.inl rfl) (pe_call (ok__law_show T) (hr.mono (by decide)) (by rfl) T.d__law_show.g T.d__law_show.F.kp T.d__law_show.b .nil pass0 (pa_cons (pe_call (ok__law_stages T) (hr.mono (by decide)) (by rfl) T.d__law_stages.g T.d__law_stages.F.kp T.d__law_stages.b .nil pass0 (pa_cons (pv 1) (pa_cons pe_int pa_nil))) pa_nil)))
      (pss_cons (ps_set (i := 6) sc_law.nd rfl (Or.inl rfl) (pe_call (ok__law_bag T) (hr.mono (by decide)) (by rfl) T.d__law_bag.g T.d__law_bag.F.kp T.d__law_bag.b .nil pass0 (pa_cons (pv 1) (pa_cons (pv 2) (pa_cons pe_int pa_nil)))))
      (pss_cons (ps_set (i := 7) sc_law.nd rfl (Or.inl rfl) (pe_call (ok__law_changes T) (hr.mono (by decide)) (by rfl) T.d__law_changes.g T.d__law_changes.F.kp T.d__law_changes.b .nil pass0 (pa_cons (pv 1) (pa_cons (pv 6) (pa_cons (pv 2) pa_nil)))))
      (pss_cons (ps_set (i := 8) sc_law.nd rfl (Or.inl rfl) (pe_op op_add (pv 2) (pe_call (ok__law_next T) (hr.mono (by decide)) (by rfl) T.d__law_next.g T.d__law_next.F.kp T.d__law_next.b .nil pass0 (pa_cons (pv 1) (pa_cons pe_int pa_nil)))))
      (pss_cons (ps_set (i := 9) sc_law.nd rfl (Or.inl rfl) (pe_call (ok__law_added T) (hr.mono (by decide)) (by rfl) T.d__law_added.g T.d__law_added.F.kp T.d__law_added.b .nil pass0 (pa_cons (pe_op op_cat (pe_call (ok_keep_sittings T) (hr.mono (by decide)) (by rfl) T.d_keep_sittings.g T.d_keep_sittings.F.kp T.d_keep_sittings.b .nil pass0 (pa_cons (pv 6) (pa_cons (pv 2) (pa_cons (pv 3) (pa_cons (pv 4) (pa_cons (pv 5) pa_nil)))))) (pe_call (ok__law_for T) (hr.mono (by decide)) (by rfl) T.d__law_for.g T.d__law_for.F.kp T.d__law_for.b .nil pass0 (pa_cons (pv 5) (pa_cons (pv 7) pa_nil)))) pa_nil)))
      (pss_cons (ps_set (i := 10) sc_law.nd rfl (Or.inl rfl) (pe_call (ok_keep_sittings T) (hr.mono (by decide)) (by rfl) T.d_keep_sittings.g T.d_keep_sittings.F.kp T.d_keep_sittings.b .nil pass0 (pa_cons (pv 9) (pa_cons (pv 8) (pa_cons (pv 3) (pa_cons (pv 4) (pa_cons (pv 5) pa_nil)))))))
      (pss_one (ps_ret (pe_call (ok__law_same T 4) (hr.mono (by decide)) (by rfl) T.d__law_same.g T.d__law_same.F.kp T.d__law_same.b .nil pass0 (pa_cons (pv 10) (pa_cons (pe_call (ok_keep_sittings T) (hr.mono (by decide)) (by rfl) T.d_keep_sittings.g T.d_keep_sittings.F.kp T.d_keep_sittings.b .nil pass0 (pa_cons (pe_call (ok__law_added T) (hr.mono (by decide)) (by rfl) T.d__law_added.g T.d__law_added.F.kp T.d__law_added.b .nil pass0 (pa_cons (pe_op op_cat (pv 6) (pv 7)) pa_nil)) (pa_cons (pv 8) (pa_cons (pv 3) (pa_cons (pv 4) (pa_cons (pv 5) pa_nil)))))) pa_nil))))))))))))))), ?_⟩
    refine ⟨_, rfl, a, ns, rfl, hS, fun d s H1 _ _ D1 => ?_⟩
    refine ⟨_, rfl, d, s, rfl, D1, fun m H2 _ D2 => ?_⟩
    refine ⟨_, rfl, d, s, 9, rfl, D2, by omega, by omega, fun gap H3 _ _ _ D3 => ?_⟩
    refine ⟨_, rfl, d, s, rfl, D3, fun g H4 _ D4 => ?_⟩
    refine ⟨_, rfl, d, s, 4, rfl, D4, by omega, by omega, fun v H5 _ D5 st => ?_⟩
    refine ⟨v, rfl, st, fun x so H6 s6 sh ok => ?_⟩
    have D6 := D5.mono s6
    refine ⟨_, rfl, _, rfl, d, s, m, 10, rfl, D6, by omega, by omega, fun u H7 B s7 D7 bB cB pB lB => ?_⟩
    refine ⟨_, rfl, _, rfl, _, rfl, d, s, u, B, m, rfl, D7, bB, cB, pB, lB, fun u2 H8 C s8 D8 bC cC tC pC lC => ?_⟩
    refine ⟨_, rfl, _, rfl, d, s, 16, rfl, D8, by omega, by omega, fun n H9 n0 _ s9 D9 => ⟨_, _, rfl, rfl, ?_⟩⟩
    have sh9 : ShowO H9 x so := ((sh.mono (tupX D6 s7)).mono (tupX D7 s8)).mono (tupX D8 s9)
    have bB9 : BagV H9 u B := (bB.monoX D7 s8).monoX D8 s9
    have bC9 : BagV H9 u2 C := bC.monoX D8 s9
    have posB : ∀ z ∈ B, 0 < z.2 ∧ z.2 ≤ 1000000 := fun z hz => by
      have := pB z hz
      omega
    refine ⟨_, rfl, _, rfl, _, rfl, _, rfl, _, rfl, u, B, m, gap, g, x, so, rfl, bB9, by omega, posB, sh9, ok, fun y1 H10 r1 s10 b1 c1 e1 l1 => ?_⟩
    refine ⟨_, rfl, _, rfl, x, u2, so, C, rfl, sh9.mono (tup_of s10), bC9.mono s10, by omega, fun y2 H11 s11 b2 => ?_⟩
    obtain ⟨p1, v1, rfl, h1, q1⟩ := b1.mono s11
    obtain ⟨p2, v2, rfl, h2, q2⟩ := b2
    have k1 := Paired.length q1
    have k2 := Paired.length q2
    have k3 : (C.filter fun p => seenO so p.1.2.1).length ≤ C.length := List.length_filter_le ..
    refine ⟨p1, p2, v1, v2, rfl, rfl, h1, h2, size1000 (by omega), fun pn npn => ?_⟩
    have sA := s10.trans (s11.trans (same_new (o := .lst (v1 ++ v2)) npn))
    refine ⟨.ref pn, r1 ++ C.filter fun p => seenO so p.1.2.1, rfl, ⟨pn, v1 ++ v2, rfl, upd_same, pmap (pair_app q1 q2) fun _ _ z => z.mono (tup_new npn)⟩, by rw [List.length_append]; omega, fun y3 H12 L s12 bL cL eL lL => ?_⟩
    have sB := sA.trans s12
    have eL' : ∀ z, Td.cnt L z = Td.cnt r1 z + (if seenO so z.2.1 = true then Td.cnt C z else 0) := fun z => by
      rw [eL z, Td.cnt_append, cnt_seen]
    have bdL : ∀ z, 0 ≤ Td.cnt L z ∧ Td.cnt L z ≤ 1000 := fun z => by
      have h1 := kcO_bd (so := so) (g := g) (gap := gap) (m := m) cB pB lB z
      have h2 := pC z
      rw [eL' z, e1 z]
      by_cases c : seenO so z.2.1 = true
      · rw [if_pos c]
        by_cases e : m ≤ z.1
        · rw [kcO_late c e] at h1 ⊢
          omega
        · have : Td.cnt C z = 0 := Classical.byContradiction fun h => e (tC z h)
          omega
      · rw [if_neg c]
        omega
    have posL : ∀ z ∈ L, 0 < z.2 ∧ z.2 ≤ 1000000 := fun z hz => by
      have h1 := cL.mem_cnt ltP_irr hz
      have h2 := cL.nz z hz
      have h3 := bdL z.1
      omega
    have lL' : L.length ≤ 100 := by
      rw [List.length_append] at lL
      omega
    refine ⟨_, rfl, _, rfl, _, rfl, _, rfl, _, rfl, y3, L, m + n, gap, g, x, so, rfl, bL, by omega, posL, sh9.mono (tup_of sB), ok, fun y4 H13 f s13 b4 c4 e4 l4 => ?_⟩
    have sC := sB.trans s13
    refine ⟨_, rfl, _, rfl, _, rfl, ?_⟩
    obtain ⟨p5, v5, rfl, h5, q5⟩ := bB9.mono sC
    obtain ⟨p6, v6, rfl, h6, q6⟩ := bC9.mono sC
    have k5 := Paired.length q5
    have k6 := Paired.length q6
    refine ⟨p5, p6, v5, v6, rfl, rfl, h5, h6, size1000 (by omega), fun pm npm => ?_⟩
    have sD := sC.trans (same_new (o := .lst (v5 ++ v6)) npm)
    refine ⟨.ref pm, B ++ C, rfl, ⟨pm, v5 ++ v6, rfl, upd_same, pmap (pair_app q5 q6) fun _ _ z => z.mono (tup_new npm)⟩, by rw [List.length_append]; omega, fun y7 H14 B2 s14 bB2 cB2 eB2 lB2 => ?_⟩
    have eB2' : ∀ z, Td.cnt B2 z = Td.cnt B z + Td.cnt C z := fun z => by rw [eB2 z, Td.cnt_append]
    have sE := sD.trans s14
    have posB2 : ∀ z ∈ B2, 0 < z.2 ∧ z.2 ≤ 1000000 := fun z hz => by
      have h1 := cB2.mem_cnt ltP_irr hz
      have h2 := cB2.nz z hz
      have h3 := pC z.1
      rw [eB2'] at h1
      have h4 : Td.cnt B z.1 ≤ 20 := by
        by_cases c : Td.cnt B z.1 = 0
        · omega
        · obtain ⟨p, hp, e⟩ := Td.Canon.cnt_mem c
          have := cB.mem_cnt ltP_irr hp
          rw [e] at this
          have := pB p hp
          omega
      omega
    have lB2' : B2.length ≤ 100 := by
      rw [List.length_append] at lB2
      omega
    refine ⟨_, rfl, _, rfl, _, rfl, _, rfl, y7, B2, m + n, gap, g, x, so, rfl, bB2, by omega, posB2, sh9.mono (tup_of sE), ok, fun y8 H15 f2 s15 b8 c8 e8 l8 => ?_⟩
    have eq : f = f2 := Td.canon_ext ltP_asym c4 c8 fun z => by
      rw [e4 z, e8 z]
      exact kcO_law (by omega) cB (fun z hz => (pB z hz).1) tC (fun r => (pC r).1) e1 cL eL' cB2 eB2' z
    subst eq
    have b4' := b4.mono ((same_new (o := .lst (v5 ++ v6)) npm).trans (s14.trans s15))
    exact ⟨y4, y8, rfl, eqv_bag (by omega) b4' b8, fun H' _ => q H'⟩
end
end L2.K21
namespace L2.K21
open PySem PySem.Spec PyProof.Rows
open TdS (RowA ltR SortedOf)
section
variable {P : Program} {w : World} {K : PySem.W.Frag} {mg : PySem.Str → Option Value} {base : Heap}
/-! ### the top: where the defs stand -/
def mkDef {K : PySem.W.Frag} {h : Heap} {mg : PySem.Str → Option Value} (X : K.In h) (G : h.Ns mainGlobals mg) {x : PySem.Str} {st : Stmt} {ps : List PySem.Str} {f : Addr} {oc : Value} {od an : Option Addr} {sl : Array (Option Value)} {kV dc pm cd ct : Value}
    (a : PySem.W.nsIn K mainGlobals x = some (some (.ref f))) (l : K.lookup f = some ⟨oc, od, .func (PySem.W.fnOf x x (defArgs st) (defBody st) (defScope st) .none kV dc pm an cd ct), sl⟩) (c : PySem.W.codeIn K cd x = true) (k : PySem.W.keepIn K (.ref f) = true)
    (hb : ∀ (kV doc pm : Value) (an : Option Addr) (cdv ct : Value) (us : List Value), us.length = ps.length → bindArgs (PySem.W.fnOf x x (defArgs st) (defBody st) (defScope st) .none kV doc pm an cdv ct) ⟨us, []⟩ = pure (ps.zip us)) : DefAt K mg x st ps :=
  ⟨f, _, fun_mk (st := st) l c k, PySem.W.mg_of X G a, (fun_mk (st := st) l c k).binds hb⟩
theorem all_mk {l : PySem.W.OpenLaw} {w : World} {K : PySem.W.Frag} {h : Heap} {mg : PySem.Str → Option Value} {fa : Addr} (X : K.In h) (G : h.Ns mainGlobals mg) (hfa : mg "law" = some (.ref fa))
    {f0 : Addr} {oc0 kV0 dc0 pm0 cd0 ct0 : Value} {od0 an0 : Option Addr} {sl0 : Array (Option Value)}
    (a0 : PySem.W.nsIn K mainGlobals "changes_of" = some (some (.ref f0))) (l0 : K.lookup f0 = some ⟨oc0, od0, .func (PySem.W.fnOf "changes_of" "changes_of" (defArgs (topS 1)) (defBody (topS 1)) (defScope (topS 1)) .none kV0 dc0 pm0 an0 cd0 ct0), sl0⟩) (c0 : PySem.W.codeIn K cd0 "changes_of" = true) (k0 : PySem.W.keepIn K (.ref f0) = true)
    {f1 : Addr} {oc1 kV1 dc1 pm1 cd1 ct1 : Value} {od1 an1 : Option Addr} {sl1 : Array (Option Value)}
    (a1 : PySem.W.nsIn K mainGlobals "final" = some (some (.ref f1))) (l1 : K.lookup f1 = some ⟨oc1, od1, .func (PySem.W.fnOf "final" "final" (defArgs (topS 2)) (defBody (topS 2)) (defScope (topS 2)) .none kV1 dc1 pm1 an1 cd1 ct1), sl1⟩) (c1 : PySem.W.codeIn K cd1 "final" = true) (k1 : PySem.W.keepIn K (.ref f1) = true)
    {f2 : Addr} {oc2 kV2 dc2 pm2 cd2 ct2 : Value} {od2 an2 : Option Addr} {sl2 : Array (Option Value)}
    (a2 : PySem.W.nsIn K mainGlobals "not_final" = some (some (.ref f2))) (l2 : K.lookup f2 = some ⟨oc2, od2, .func (PySem.W.fnOf "not_final" "not_final" (defArgs (topS 3)) (defBody (topS 3)) (defScope (topS 3)) .none kV2 dc2 pm2 an2 cd2 ct2), sl2⟩) (c2 : PySem.W.codeIn K cd2 "not_final" = true) (k2 : PySem.W.keepIn K (.ref f2) = true)
    {f3 : Addr} {oc3 kV3 dc3 pm3 cd3 ct3 : Value} {od3 an3 : Option Addr} {sl3 : Array (Option Value)}
    (a3 : PySem.W.nsIn K mainGlobals "shows_key" = some (some (.ref f3))) (l3 : K.lookup f3 = some ⟨oc3, od3, .func (PySem.W.fnOf "shows_key" "shows_key" (defArgs (topS 5)) (defBody (topS 5)) (defScope (topS 5)) .none kV3 dc3 pm3 an3 cd3 ct3), sl3⟩) (c3 : PySem.W.codeIn K cd3 "shows_key" = true) (k3 : PySem.W.keepIn K (.ref f3) = true)
    {f4 : Addr} {oc4 kV4 dc4 pm4 cd4 ct4 : Value} {od4 an4 : Option Addr} {sl4 : Array (Option Value)}
    (a4 : PySem.W.nsIn K mainGlobals "shows_value" = some (some (.ref f4))) (l4 : K.lookup f4 = some ⟨oc4, od4, .func (PySem.W.fnOf "shows_value" "shows_value" (defArgs (topS 6)) (defBody (topS 6)) (defScope (topS 6)) .none kV4 dc4 pm4 an4 cd4 ct4), sl4⟩) (c4 : PySem.W.codeIn K cd4 "shows_value" = true) (k4 : PySem.W.keepIn K (.ref f4) = true)
    {f5 : Addr} {oc5 kV5 dc5 pm5 cd5 ct5 : Value} {od5 an5 : Option Addr} {sl5 : Array (Option Value)}
    (a5 : PySem.W.nsIn K mainGlobals "is_shown" = some (some (.ref f5))) (l5 : K.lookup f5 = some ⟨oc5, od5, .func (PySem.W.fnOf "is_shown" "is_shown" (defArgs (topS 8)) (defBody (topS 8)) (defScope (topS 8)) .none kV5 dc5 pm5 an5 cd5 ct5), sl5⟩) (c5 : PySem.W.codeIn K cd5 "is_shown" = true) (k5 : PySem.W.keepIn K (.ref f5) = true)
    {f6 : Addr} {oc6 kV6 dc6 pm6 cd6 ct6 : Value} {od6 an6 : Option Addr} {sl6 : Array (Option Value)}
    (a6 : PySem.W.nsIn K mainGlobals "shows_all" = some (some (.ref f6))) (l6 : K.lookup f6 = some ⟨oc6, od6, .func (PySem.W.fnOf "shows_all" "shows_all" (defArgs (topS 9)) (defBody (topS 9)) (defScope (topS 9)) .none kV6 dc6 pm6 an6 cd6 ct6), sl6⟩) (c6 : PySem.W.codeIn K cd6 "shows_all" = true) (k6 : PySem.W.keepIn K (.ref f6) = true)
    {f7 : Addr} {oc7 kV7 dc7 pm7 cd7 ct7 : Value} {od7 an7 : Option Addr} {sl7 : Array (Option Value)}
    (a7 : PySem.W.nsIn K mainGlobals "step_out" = some (some (.ref f7))) (l7 : K.lookup f7 = some ⟨oc7, od7, .func (PySem.W.fnOf "step_out" "step_out" (defArgs (topS 10)) (defBody (topS 10)) (defScope (topS 10)) .none kV7 dc7 pm7 an7 cd7 ct7), sl7⟩) (c7 : PySem.W.codeIn K cd7 "step_out" = true) (k7 : PySem.W.keepIn K (.ref f7) = true)
    {f8 : Addr} {oc8 kV8 dc8 pm8 cd8 ct8 : Value} {od8 an8 : Option Addr} {sl8 : Array (Option Value)}
    (a8 : PySem.W.nsIn K mainGlobals "run_top" = some (some (.ref f8))) (l8 : K.lookup f8 = some ⟨oc8, od8, .func (PySem.W.fnOf "run_top" "run_top" (defArgs (topS 11)) (defBody (topS 11)) (defScope (topS 11)) .none kV8 dc8 pm8 an8 cd8 ct8), sl8⟩) (c8 : PySem.W.codeIn K cd8 "run_top" = true) (k8 : PySem.W.keepIn K (.ref f8) = true)
    {f9 : Addr} {oc9 kV9 dc9 pm9 cd9 ct9 : Value} {od9 an9 : Option Addr} {sl9 : Array (Option Value)}
    (a9 : PySem.W.nsIn K mainGlobals "run_bottom" = some (some (.ref f9))) (l9 : K.lookup f9 = some ⟨oc9, od9, .func (PySem.W.fnOf "run_bottom" "run_bottom" (defArgs (topS 12)) (defBody (topS 12)) (defScope (topS 12)) .none kV9 dc9 pm9 an9 cd9 ct9), sl9⟩) (c9 : PySem.W.codeIn K cd9 "run_bottom" = true) (k9 : PySem.W.keepIn K (.ref f9) = true)
    {f10 : Addr} {oc10 kV10 dc10 pm10 cd10 ct10 : Value} {od10 an10 : Option Addr} {sl10 : Array (Option Value)}
    (a10 : PySem.W.nsIn K mainGlobals "class_of" = some (some (.ref f10))) (l10 : K.lookup f10 = some ⟨oc10, od10, .func (PySem.W.fnOf "class_of" "class_of" (defArgs (topS 13)) (defBody (topS 13)) (defScope (topS 13)) .none kV10 dc10 pm10 an10 cd10 ct10), sl10⟩) (c10 : PySem.W.codeIn K cd10 "class_of" = true) (k10 : PySem.W.keepIn K (.ref f10) = true)
    {f11 : Addr} {oc11 kV11 dc11 pm11 cd11 ct11 : Value} {od11 an11 : Option Addr} {sl11 : Array (Option Value)}
    (a11 : PySem.W.nsIn K mainGlobals "class_above" = some (some (.ref f11))) (l11 : K.lookup f11 = some ⟨oc11, od11, .func (PySem.W.fnOf "class_above" "class_above" (defArgs (topS 14)) (defBody (topS 14)) (defScope (topS 14)) .none kV11 dc11 pm11 an11 cd11 ct11), sl11⟩) (c11 : PySem.W.codeIn K cd11 "class_above" = true) (k11 : PySem.W.keepIn K (.ref f11) = true)
    {f12 : Addr} {oc12 kV12 dc12 pm12 cd12 ct12 : Value} {od12 an12 : Option Addr} {sl12 : Array (Option Value)}
    (a12 : PySem.W.nsIn K mainGlobals "class_below" = some (some (.ref f12))) (l12 : K.lookup f12 = some ⟨oc12, od12, .func (PySem.W.fnOf "class_below" "class_below" (defArgs (topS 15)) (defBody (topS 15)) (defScope (topS 15)) .none kV12 dc12 pm12 an12 cd12 ct12), sl12⟩) (c12 : PySem.W.codeIn K cd12 "class_below" = true) (k12 : PySem.W.keepIn K (.ref f12) = true)
    {f13 : Addr} {oc13 kV13 dc13 pm13 cd13 ct13 : Value} {od13 an13 : Option Addr} {sl13 : Array (Option Value)}
    (a13 : PySem.W.nsIn K mainGlobals "count_limit" = some (some (.ref f13))) (l13 : K.lookup f13 = some ⟨oc13, od13, .func (PySem.W.fnOf "count_limit" "count_limit" (defArgs (topS 16)) (defBody (topS 16)) (defScope (topS 16)) .none kV13 dc13 pm13 an13 cd13 ct13), sl13⟩) (c13 : PySem.W.codeIn K cd13 "count_limit" = true) (k13 : PySem.W.keepIn K (.ref f13) = true)
    {f14 : Addr} {oc14 kV14 dc14 pm14 cd14 ct14 : Value} {od14 an14 : Option Addr} {sl14 : Array (Option Value)}
    (a14 : PySem.W.nsIn K mainGlobals "seen" = some (some (.ref f14))) (l14 : K.lookup f14 = some ⟨oc14, od14, .func (PySem.W.fnOf "seen" "seen" (defArgs (topS 18)) (defBody (topS 18)) (defScope (topS 18)) .none kV14 dc14 pm14 an14 cd14 ct14), sl14⟩) (c14 : PySem.W.codeIn K cd14 "seen" = true) (k14 : PySem.W.keepIn K (.ref f14) = true)
    {f15 : Addr} {oc15 kV15 dc15 pm15 cd15 ct15 : Value} {od15 an15 : Option Addr} {sl15 : Array (Option Value)}
    (a15 : PySem.W.nsIn K mainGlobals "values_by_key" = some (some (.ref f15))) (l15 : K.lookup f15 = some ⟨oc15, od15, .func (PySem.W.fnOf "values_by_key" "values_by_key" (defArgs (topS 19)) (defBody (topS 19)) (defScope (topS 19)) .none kV15 dc15 pm15 an15 cd15 ct15), sl15⟩) (c15 : PySem.W.codeIn K cd15 "values_by_key" = true) (k15 : PySem.W.keepIn K (.ref f15) = true)
    {f16 : Addr} {oc16 kV16 dc16 pm16 cd16 ct16 : Value} {od16 an16 : Option Addr} {sl16 : Array (Option Value)}
    (a16 : PySem.W.nsIn K mainGlobals "number_of" = some (some (.ref f16))) (l16 : K.lookup f16 = some ⟨oc16, od16, .func (PySem.W.fnOf "number_of" "number_of" (defArgs (topS 20)) (defBody (topS 20)) (defScope (topS 20)) .none kV16 dc16 pm16 an16 cd16 ct16), sl16⟩) (c16 : PySem.W.codeIn K cd16 "number_of" = true) (k16 : PySem.W.keepIn K (.ref f16) = true)
    {f17 : Addr} {oc17 kV17 dc17 pm17 cd17 ct17 : Value} {od17 an17 : Option Addr} {sl17 : Array (Option Value)}
    (a17 : PySem.W.nsIn K mainGlobals "sum_of" = some (some (.ref f17))) (l17 : K.lookup f17 = some ⟨oc17, od17, .func (PySem.W.fnOf "sum_of" "sum_of" (defArgs (topS 21)) (defBody (topS 21)) (defScope (topS 21)) .none kV17 dc17 pm17 an17 cd17 ct17), sl17⟩) (c17 : PySem.W.codeIn K cd17 "sum_of" = true) (k17 : PySem.W.keepIn K (.ref f17) = true)
    {f18 : Addr} {oc18 kV18 dc18 pm18 cd18 ct18 : Value} {od18 an18 : Option Addr} {sl18 : Array (Option Value)}
    (a18 : PySem.W.nsIn K mainGlobals "extreme_of" = some (some (.ref f18))) (l18 : K.lookup f18 = some ⟨oc18, od18, .func (PySem.W.fnOf "extreme_of" "extreme_of" (defArgs (topS 22)) (defBody (topS 22)) (defScope (topS 22)) .none kV18 dc18 pm18 an18 cd18 ct18), sl18⟩) (c18 : PySem.W.codeIn K cd18 "extreme_of" = true) (k18 : PySem.W.keepIn K (.ref f18) = true)
    {f19 : Addr} {oc19 kV19 dc19 pm19 cd19 ct19 : Value} {od19 an19 : Option Addr} {sl19 : Array (Option Value)}
    (a19 : PySem.W.nsIn K mainGlobals "class_for" = some (some (.ref f19))) (l19 : K.lookup f19 = some ⟨oc19, od19, .func (PySem.W.fnOf "class_for" "class_for" (defArgs (topS 23)) (defBody (topS 23)) (defScope (topS 23)) .none kV19 dc19 pm19 an19 cd19 ct19), sl19⟩) (c19 : PySem.W.codeIn K cd19 "class_for" = true) (k19 : PySem.W.keepIn K (.ref f19) = true)
    {f20 : Addr} {oc20 kV20 dc20 pm20 cd20 ct20 : Value} {od20 an20 : Option Addr} {sl20 : Array (Option Value)}
    (a20 : PySem.W.nsIn K mainGlobals "counts_kept" = some (some (.ref f20))) (l20 : K.lookup f20 = some ⟨oc20, od20, .func (PySem.W.fnOf "counts_kept" "counts_kept" (defArgs (topS 24)) (defBody (topS 24)) (defScope (topS 24)) .none kV20 dc20 pm20 an20 cd20 ct20), sl20⟩) (c20 : PySem.W.codeIn K cd20 "counts_kept" = true) (k20 : PySem.W.keepIn K (.ref f20) = true)
    {f21 : Addr} {oc21 kV21 dc21 pm21 cd21 ct21 : Value} {od21 an21 : Option Addr} {sl21 : Array (Option Value)}
    (a21 : PySem.W.nsIn K mainGlobals "sums_kept" = some (some (.ref f21))) (l21 : K.lookup f21 = some ⟨oc21, od21, .func (PySem.W.fnOf "sums_kept" "sums_kept" (defArgs (topS 25)) (defBody (topS 25)) (defScope (topS 25)) .none kV21 dc21 pm21 an21 cd21 ct21), sl21⟩) (c21 : PySem.W.codeIn K cd21 "sums_kept" = true) (k21 : PySem.W.keepIn K (.ref f21) = true)
    {f22 : Addr} {oc22 kV22 dc22 pm22 cd22 ct22 : Value} {od22 an22 : Option Addr} {sl22 : Array (Option Value)}
    (a22 : PySem.W.nsIn K mainGlobals "extremes_kept" = some (some (.ref f22))) (l22 : K.lookup f22 = some ⟨oc22, od22, .func (PySem.W.fnOf "extremes_kept" "extremes_kept" (defArgs (topS 26)) (defBody (topS 26)) (defScope (topS 26)) .none kV22 dc22 pm22 an22 cd22 ct22), sl22⟩) (c22 : PySem.W.codeIn K cd22 "extremes_kept" = true) (k22 : PySem.W.keepIn K (.ref f22) = true)
    {f23 : Addr} {oc23 kV23 dc23 pm23 cd23 ct23 : Value} {od23 an23 : Option Addr} {sl23 : Array (Option Value)}
    (a23 : PySem.W.nsIn K mainGlobals "groups_kept" = some (some (.ref f23))) (l23 : K.lookup f23 = some ⟨oc23, od23, .func (PySem.W.fnOf "groups_kept" "groups_kept" (defArgs (topS 27)) (defBody (topS 27)) (defScope (topS 27)) .none kV23 dc23 pm23 an23 cd23 ct23), sl23⟩) (c23 : PySem.W.codeIn K cd23 "groups_kept" = true) (k23 : PySem.W.keepIn K (.ref f23) = true)
    {f24 : Addr} {oc24 kV24 dc24 pm24 cd24 ct24 : Value} {od24 an24 : Option Addr} {sl24 : Array (Option Value)}
    (a24 : PySem.W.nsIn K mainGlobals "last_sitting" = some (some (.ref f24))) (l24 : K.lookup f24 = some ⟨oc24, od24, .func (PySem.W.fnOf "last_sitting" "last_sitting" (defArgs (topS 28)) (defBody (topS 28)) (defScope (topS 28)) .none kV24 dc24 pm24 an24 cd24 ct24), sl24⟩) (c24 : PySem.W.codeIn K cd24 "last_sitting" = true) (k24 : PySem.W.keepIn K (.ref f24) = true)
    {f25 : Addr} {oc25 kV25 dc25 pm25 cd25 ct25 : Value} {od25 an25 : Option Addr} {sl25 : Array (Option Value)}
    (a25 : PySem.W.nsIn K mainGlobals "keep_sittings" = some (some (.ref f25))) (l25 : K.lookup f25 = some ⟨oc25, od25, .func (PySem.W.fnOf "keep_sittings" "keep_sittings" (defArgs (topS 29)) (defBody (topS 29)) (defScope (topS 29)) .none kV25 dc25 pm25 an25 cd25 ct25), sl25⟩) (c25 : PySem.W.codeIn K cd25 "keep_sittings" = true) (k25 : PySem.W.keepIn K (.ref f25) = true)
    {f26 : Addr} {oc26 kV26 dc26 pm26 cd26 ct26 : Value} {od26 an26 : Option Addr} {sl26 : Array (Option Value)}
    (a26 : PySem.W.nsIn K mainGlobals "_law_draw" = some (some (.ref f26))) (l26 : K.lookup f26 = some ⟨oc26, od26, .func (PySem.W.fnOf "_law_draw" "_law_draw" (defArgs (topS 31)) (defBody (topS 31)) (defScope (topS 31)) .none kV26 dc26 pm26 an26 cd26 ct26), sl26⟩) (c26 : PySem.W.codeIn K cd26 "_law_draw" = true) (k26 : PySem.W.keepIn K (.ref f26) = true)
    {f27 : Addr} {oc27 kV27 dc27 pm27 cd27 ct27 : Value} {od27 an27 : Option Addr} {sl27 : Array (Option Value)}
    (a27 : PySem.W.nsIn K mainGlobals "_law_next" = some (some (.ref f27))) (l27 : K.lookup f27 = some ⟨oc27, od27, .func (PySem.W.fnOf "_law_next" "_law_next" (defArgs (topS 32)) (defBody (topS 32)) (defScope (topS 32)) .none kV27 dc27 pm27 an27 cd27 ct27), sl27⟩) (c27 : PySem.W.codeIn K cd27 "_law_next" = true) (k27 : PySem.W.keepIn K (.ref f27) = true)
    {f28 : Addr} {oc28 kV28 dc28 pm28 cd28 ct28 : Value} {od28 an28 : Option Addr} {sl28 : Array (Option Value)}
    (a28 : PySem.W.nsIn K mainGlobals "_law_same" = some (some (.ref f28))) (l28 : K.lookup f28 = some ⟨oc28, od28, .func (PySem.W.fnOf "_law_same" "_law_same" (defArgs (topS 33)) (defBody (topS 33)) (defScope (topS 33)) .none kV28 dc28 pm28 an28 cd28 ct28), sl28⟩) (c28 : PySem.W.codeIn K cd28 "_law_same" = true) (k28 : PySem.W.keepIn K (.ref f28) = true)
    {f29 : Addr} {oc29 kV29 dc29 pm29 cd29 ct29 : Value} {od29 an29 : Option Addr} {sl29 : Array (Option Value)}
    (a29 : PySem.W.nsIn K mainGlobals "_law_passes" = some (some (.ref f29))) (l29 : K.lookup f29 = some ⟨oc29, od29, .func (PySem.W.fnOf "_law_passes" "_law_passes" (defArgs (topS 34)) (defBody (topS 34)) (defScope (topS 34)) .none kV29 dc29 pm29 an29 cd29 ct29), sl29⟩) (c29 : PySem.W.codeIn K cd29 "_law_passes" = true) (k29 : PySem.W.keepIn K (.ref f29) = true)
    {f30 : Addr} {oc30 kV30 dc30 pm30 cd30 ct30 : Value} {od30 an30 : Option Addr} {sl30 : Array (Option Value)}
    (a30 : PySem.W.nsIn K mainGlobals "_law_stage" = some (some (.ref f30))) (l30 : K.lookup f30 = some ⟨oc30, od30, .func (PySem.W.fnOf "_law_stage" "_law_stage" (defArgs (topS 35)) (defBody (topS 35)) (defScope (topS 35)) .none kV30 dc30 pm30 an30 cd30 ct30), sl30⟩) (c30 : PySem.W.codeIn K cd30 "_law_stage" = true) (k30 : PySem.W.keepIn K (.ref f30) = true)
    {f31 : Addr} {oc31 kV31 dc31 pm31 cd31 ct31 : Value} {od31 an31 : Option Addr} {sl31 : Array (Option Value)}
    (a31 : PySem.W.nsIn K mainGlobals "_law_stages" = some (some (.ref f31))) (l31 : K.lookup f31 = some ⟨oc31, od31, .func (PySem.W.fnOf "_law_stages" "_law_stages" (defArgs (topS 36)) (defBody (topS 36)) (defScope (topS 36)) .none kV31 dc31 pm31 an31 cd31 ct31), sl31⟩) (c31 : PySem.W.codeIn K cd31 "_law_stages" = true) (k31 : PySem.W.keepIn K (.ref f31) = true)
    {f32 : Addr} {oc32 kV32 dc32 pm32 cd32 ct32 : Value} {od32 an32 : Option Addr} {sl32 : Array (Option Value)}
    (a32 : PySem.W.nsIn K mainGlobals "_law_value" = some (some (.ref f32))) (l32 : K.lookup f32 = some ⟨oc32, od32, .func (PySem.W.fnOf "_law_value" "_law_value" (defArgs (topS 37)) (defBody (topS 37)) (defScope (topS 37)) .none kV32 dc32 pm32 an32 cd32 ct32), sl32⟩) (c32 : PySem.W.codeIn K cd32 "_law_value" = true) (k32 : PySem.W.keepIn K (.ref f32) = true)
    {f33 : Addr} {oc33 kV33 dc33 pm33 cd33 ct33 : Value} {od33 an33 : Option Addr} {sl33 : Array (Option Value)}
    (a33 : PySem.W.nsIn K mainGlobals "_law_keys_shown" = some (some (.ref f33))) (l33 : K.lookup f33 = some ⟨oc33, od33, .func (PySem.W.fnOf "_law_keys_shown" "_law_keys_shown" (defArgs (topS 38)) (defBody (topS 38)) (defScope (topS 38)) .none kV33 dc33 pm33 an33 cd33 ct33), sl33⟩) (c33 : PySem.W.codeIn K cd33 "_law_keys_shown" = true) (k33 : PySem.W.keepIn K (.ref f33) = true)
    {f34 : Addr} {oc34 kV34 dc34 pm34 cd34 ct34 : Value} {od34 an34 : Option Addr} {sl34 : Array (Option Value)}
    (a34 : PySem.W.nsIn K mainGlobals "_law_show" = some (some (.ref f34))) (l34 : K.lookup f34 = some ⟨oc34, od34, .func (PySem.W.fnOf "_law_show" "_law_show" (defArgs (topS 39)) (defBody (topS 39)) (defScope (topS 39)) .none kV34 dc34 pm34 an34 cd34 ct34), sl34⟩) (c34 : PySem.W.codeIn K cd34 "_law_show" = true) (k34 : PySem.W.keepIn K (.ref f34) = true)
    {f35 : Addr} {oc35 kV35 dc35 pm35 cd35 ct35 : Value} {od35 an35 : Option Addr} {sl35 : Array (Option Value)}
    (a35 : PySem.W.nsIn K mainGlobals "_law_added" = some (some (.ref f35))) (l35 : K.lookup f35 = some ⟨oc35, od35, .func (PySem.W.fnOf "_law_added" "_law_added" (defArgs (topS 41)) (defBody (topS 41)) (defScope (topS 41)) .none kV35 dc35 pm35 an35 cd35 ct35), sl35⟩) (c35 : PySem.W.codeIn K cd35 "_law_added" = true) (k35 : PySem.W.keepIn K (.ref f35) = true)
    {f36 : Addr} {oc36 kV36 dc36 pm36 cd36 ct36 : Value} {od36 an36 : Option Addr} {sl36 : Array (Option Value)}
    (a36 : PySem.W.nsIn K mainGlobals "_law_seen" = some (some (.ref f36))) (l36 : K.lookup f36 = some ⟨oc36, od36, .func (PySem.W.fnOf "_law_seen" "_law_seen" (defArgs (topS 43)) (defBody (topS 43)) (defScope (topS 43)) .none kV36 dc36 pm36 an36 cd36 ct36), sl36⟩) (c36 : PySem.W.codeIn K cd36 "_law_seen" = true) (k36 : PySem.W.keepIn K (.ref f36) = true)
    {f37 : Addr} {oc37 kV37 dc37 pm37 cd37 ct37 : Value} {od37 an37 : Option Addr} {sl37 : Array (Option Value)}
    (a37 : PySem.W.nsIn K mainGlobals "_law_bag" = some (some (.ref f37))) (l37 : K.lookup f37 = some ⟨oc37, od37, .func (PySem.W.fnOf "_law_bag" "_law_bag" (defArgs (topS 45)) (defBody (topS 45)) (defScope (topS 45)) .none kV37 dc37 pm37 an37 cd37 ct37), sl37⟩) (c37 : PySem.W.codeIn K cd37 "_law_bag" = true) (k37 : PySem.W.keepIn K (.ref f37) = true)
    {f38 : Addr} {oc38 kV38 dc38 pm38 cd38 ct38 : Value} {od38 an38 : Option Addr} {sl38 : Array (Option Value)}
    (a38 : PySem.W.nsIn K mainGlobals "_law_changes" = some (some (.ref f38))) (l38 : K.lookup f38 = some ⟨oc38, od38, .func (PySem.W.fnOf "_law_changes" "_law_changes" (defArgs (topS 46)) (defBody (topS 46)) (defScope (topS 46)) .none kV38 dc38 pm38 an38 cd38 ct38), sl38⟩) (c38 : PySem.W.codeIn K cd38 "_law_changes" = true) (k38 : PySem.W.keepIn K (.ref f38) = true)
    {f39 : Addr} {oc39 kV39 dc39 pm39 cd39 ct39 : Value} {od39 an39 : Option Addr} {sl39 : Array (Option Value)}
    (a39 : PySem.W.nsIn K mainGlobals "_law_mark" = some (some (.ref f39))) (l39 : K.lookup f39 = some ⟨oc39, od39, .func (PySem.W.fnOf "_law_mark" "_law_mark" (defArgs (topS 47)) (defBody (topS 47)) (defScope (topS 47)) .none kV39 dc39 pm39 an39 cd39 ct39), sl39⟩) (c39 : PySem.W.codeIn K cd39 "_law_mark" = true) (k39 : PySem.W.keepIn K (.ref f39) = true)
    {f40 : Addr} {oc40 kV40 dc40 pm40 cd40 ct40 : Value} {od40 an40 : Option Addr} {sl40 : Array (Option Value)}
    (a40 : PySem.W.nsIn K mainGlobals "_law_aggregate" = some (some (.ref f40))) (l40 : K.lookup f40 = some ⟨oc40, od40, .func (PySem.W.fnOf "_law_aggregate" "_law_aggregate" (defArgs (topS 49)) (defBody (topS 49)) (defScope (topS 49)) .none kV40 dc40 pm40 an40 cd40 ct40), sl40⟩) (c40 : PySem.W.codeIn K cd40 "_law_aggregate" = true) (k40 : PySem.W.keepIn K (.ref f40) = true)
    {f41 : Addr} {oc41 kV41 dc41 pm41 cd41 ct41 : Value} {od41 an41 : Option Addr} {sl41 : Array (Option Value)}
    (a41 : PySem.W.nsIn K mainGlobals "_law_for" = some (some (.ref f41))) (l41 : K.lookup f41 = some ⟨oc41, od41, .func (PySem.W.fnOf "_law_for" "_law_for" (defArgs (topS 50)) (defBody (topS 50)) (defScope (topS 50)) .none kV41 dc41 pm41 an41 cd41 ct41), sl41⟩) (c41 : PySem.W.codeIn K cd41 "_law_for" = true) (k41 : PySem.W.keepIn K (.ref f41) = true)
    {f42 : Addr} {oc42 kV42 dc42 pm42 cd42 ct42 : Value} {od42 an42 : Option Addr} {sl42 : Array (Option Value)}
    (a42 : PySem.W.nsIn K mainGlobals "law" = some (some (.ref f42))) (l42 : K.lookup f42 = some ⟨oc42, od42, .func (PySem.W.fnOf "law" "law" (defArgs (topS 51)) (defBody (topS 51)) (defScope (topS 51)) .none kV42 dc42 pm42 an42 cd42 ct42), sl42⟩) (c42 : PySem.W.codeIn K cd42 "law" = true) (k42 : PySem.W.keepIn K (.ref f42) = true)
    (z0 : PySem.W.nsIn K mainGlobals "abs" = some none) (z1 : PySem.W.nsIn K mainGlobals "all" = some none) (z2 : PySem.W.nsIn K mainGlobals "bool" = some none) (z3 : PySem.W.nsIn K mainGlobals "enumerate" = some none) (z4 : PySem.W.nsIn K mainGlobals "int" = some none) (z5 : PySem.W.nsIn K mainGlobals "isinstance" = some none) (z6 : PySem.W.nsIn K mainGlobals "len" = some none) (z7 : PySem.W.nsIn K mainGlobals "list" = some none) (z8 : PySem.W.nsIn K mainGlobals "max" = some none) (z9 : PySem.W.nsIn K mainGlobals "min" = some none) (z10 : PySem.W.nsIn K mainGlobals "range" = some none) (z11 : PySem.W.nsIn K mainGlobals "sorted" = some none) (z12 : PySem.W.nsIn K mainGlobals "str" = some none) (z13 : PySem.W.nsIn K mainGlobals "sum" = some none) (z14 : PySem.W.nsIn K mainGlobals "tuple" = some none) :
    ∃ fd : FuncData, (∀ (s : Shared) (v : Value), BindsTo s fd ⟨[v], []⟩ [("_law_script", v)]) ∧ ∀ base : Heap, K.In base → base.Ns mainGlobals mg → FnOk l.prog w K mg base CX0 9 fa fd ["_law_script"] (spLaw K) := by
  have e := hfa.symm.trans (PySem.W.mg_of X G a42)
  cases e
  let T : Txt K mg := {
    d_changes_of := mkDef X G (ps := ["pairs"]) a0 l0 c0 k0 fun _ _ _ _ _ _ us hl => match us, hl with | [_], _ => rfl
    d_final := mkDef X G (ps := ["bag", "mark"]) a1 l1 c1 k1 fun _ _ _ _ _ _ us hl => match us, hl with | [_, _], _ => rfl
    d_not_final := mkDef X G (ps := ["bag", "mark"]) a2 l2 c2 k2 fun _ _ _ _ _ _ us hl => match us, hl with | [_, _], _ => rfl
    d_shows_key := mkDef X G (ps := ["show", "key"]) a3 l3 c3 k3 fun _ _ _ _ _ _ us hl => match us, hl with | [_, _], _ => rfl
    d_shows_value := mkDef X G (ps := ["show", "value"]) a4 l4 c4 k4 fun _ _ _ _ _ _ us hl => match us, hl with | [_, _], _ => rfl
    d_is_shown := mkDef X G (ps := ["show", "value"]) a5 l5 c5 k5 fun _ _ _ _ _ _ us hl => match us, hl with | [_, _], _ => rfl
    d_shows_all := mkDef X G (ps := ["show"]) a6 l6 c6 k6 fun _ _ _ _ _ _ us hl => match us, hl with | [_], _ => rfl
    d_step_out := mkDef X G (ps := ["holes", "value", "step"]) a7 l7 c7 k7 fun _ _ _ _ _ _ us hl => match us, hl with | [_, _, _], _ => rfl
    d_run_top := mkDef X G (ps := ["show", "value"]) a8 l8 c8 k8 fun _ _ _ _ _ _ us hl => match us, hl with | [_, _], _ => rfl
    d_run_bottom := mkDef X G (ps := ["show", "value"]) a9 l9 c9 k9 fun _ _ _ _ _ _ us hl => match us, hl with | [_, _], _ => rfl
    d_class_of := mkDef X G (ps := ["show", "value", "first", "last"]) a10 l10 c10 k10 fun _ _ _ _ _ _ us hl => match us, hl with | [_, _, _, _], _ => rfl
    d_class_above := mkDef X G (ps := ["show", "value"]) a11 l11 c11 k11 fun _ _ _ _ _ _ us hl => match us, hl with | [_, _], _ => rfl
    d_class_below := mkDef X G (ps := ["show", "value"]) a12 l12 c12 k12 fun _ _ _ _ _ _ us hl => match us, hl with | [_, _], _ => rfl
    d_count_limit := mkDef X G (ps := ["show"]) a13 l13 c13 k13 fun _ _ _ _ _ _ us hl => match us, hl with | [_], _ => rfl
    d_seen := mkDef X G (ps := ["show", "bag"]) a14 l14 c14 k14 fun _ _ _ _ _ _ us hl => match us, hl with | [_, _], _ => rfl
    d_values_by_key := mkDef X G (ps := ["bag"]) a15 l15 c15 k15 fun _ _ _ _ _ _ us hl => match us, hl with | [_], _ => rfl
    d_number_of := mkDef X G (ps := ["parts"]) a16 l16 c16 k16 fun _ _ _ _ _ _ us hl => match us, hl with | [_], _ => rfl
    d_sum_of := mkDef X G (ps := ["parts"]) a17 l17 c17 k17 fun _ _ _ _ _ _ us hl => match us, hl with | [_], _ => rfl
    d_extreme_of := mkDef X G (ps := ["parts", "aggregate"]) a18 l18 c18 k18 fun _ _ _ _ _ _ us hl => match us, hl with | [_, _], _ => rfl
    d_class_for := mkDef X G (ps := ["show", "aggregate", "value"]) a19 l19 c19 k19 fun _ _ _ _ _ _ us hl => match us, hl with | [_, _, _], _ => rfl
    d_counts_kept := mkDef X G (ps := ["groups", "key", "limit"]) a20 l20 c20 k20 fun _ _ _ _ _ _ us hl => match us, hl with | [_, _, _], _ => rfl
    d_sums_kept := mkDef X G (ps := ["groups", "key", "show"]) a21 l21 c21 k21 fun _ _ _ _ _ _ us hl => match us, hl with | [_, _, _], _ => rfl
    d_extremes_kept := mkDef X G (ps := ["groups", "key", "aggregate", "show"]) a22 l22 c22 k22 fun _ _ _ _ _ _ us hl => match us, hl with | [_, _, _, _], _ => rfl
    d_groups_kept := mkDef X G (ps := ["groups", "key", "aggregate", "show"]) a23 l23 c23 k23 fun _ _ _ _ _ _ us hl => match us, hl with | [_, _, _, _], _ => rfl
    d_last_sitting := mkDef X G (ps := ["parts", "gap"]) a24 l24 c24 k24 fun _ _ _ _ _ _ us hl => match us, hl with | [_, _], _ => rfl
    d_keep_sittings := mkDef X G (ps := ["bag", "mark", "gap", "aggregate", "show"]) a25 l25 c25 k25 fun _ _ _ _ _ _ us hl => match us, hl with | [_, _, _, _, _], _ => rfl
    d__law_draw := mkDef X G (ps := ["_law_script"]) a26 l26 c26 k26 fun _ _ _ _ _ _ us hl => match us, hl with | [_], _ => rfl
    d__law_next := mkDef X G (ps := ["_law_draw_here", "_law_many"]) a27 l27 c27 k27 fun _ _ _ _ _ _ us hl => match us, hl with | [_, _], _ => rfl
    d__law_same := mkDef X G (ps := ["_law_actual", "_law_due"]) a28 l28 c28 k28 fun _ _ _ _ _ _ us hl => match us, hl with | [_, _], _ => rfl
    d__law_passes := mkDef X G (ps := ["_law_comparison", "_law_value_here", "_law_bound"]) a29 l29 c29 k29 fun _ _ _ _ _ _ us hl => match us, hl with | [_, _, _], _ => rfl
    d__law_stage := mkDef X G (ps := ["_law_draw_here"]) a30 l30 c30 k30 fun _ _ _ _ _ _ us hl => match us, hl with | [_], _ => rfl
    d__law_stages := mkDef X G (ps := ["_law_draw_here", "_law_most"]) a31 l31 c31 k31 fun _ _ _ _ _ _ us hl => match us, hl with | [_, _], _ => rfl
    d__law_value := mkDef X G (ps := ["_law_stages_here", "_law_value_here"]) a32 l32 c32 k32 fun _ _ _ _ _ _ us hl => match us, hl with | [_, _], _ => rfl
    d__law_keys_shown := mkDef X G (ps := ["_law_stages_here"]) a33 l33 c33 k33 fun _ _ _ _ _ _ us hl => match us, hl with | [_], _ => rfl
    d__law_show := mkDef X G (ps := ["_law_stages_here"]) a34 l34 c34 k34 fun _ _ _ _ _ _ us hl => match us, hl with | [_], _ => rfl
    d__law_added := mkDef X G (ps := ["_law_pairs"]) a35 l35 c35 k35 fun _ _ _ _ _ _ us hl => match us, hl with | [_], _ => rfl
    d__law_seen := mkDef X G (ps := ["_law_show_here", "_law_key"]) a36 l36 c36 k36 fun _ _ _ _ _ _ us hl => match us, hl with | [_, _], _ => rfl
    d__law_bag := mkDef X G (ps := ["_law_draw_here", "_law_mark_here", "_law_most"]) a37 l37 c37 k37 fun _ _ _ _ _ _ us hl => match us, hl with | [_, _, _], _ => rfl
    d__law_changes := mkDef X G (ps := ["_law_draw_here", "_law_bag_here", "_law_mark_here"]) a38 l38 c38 k38 fun _ _ _ _ _ _ us hl => match us, hl with | [_, _, _], _ => rfl
    d__law_mark := mkDef X G (ps := ["_law_draw_here"]) a39 l39 c39 k39 fun _ _ _ _ _ _ us hl => match us, hl with | [_], _ => rfl
    d__law_aggregate := mkDef X G (ps := ["_law_draw_here"]) a40 l40 c40 k40 fun _ _ _ _ _ _ us hl => match us, hl with | [_], _ => rfl
    d__law_for := mkDef X G (ps := ["_law_show_here", "_law_changes_here"]) a41 l41 c41 k41 fun _ _ _ _ _ _ us hl => match us, hl with | [_, _], _ => rfl
    z_abs := PySem.W.mg_none_of X G z0
    z_all := PySem.W.mg_none_of X G z1
    z_bool := PySem.W.mg_none_of X G z2
    z_enumerate := PySem.W.mg_none_of X G z3
    z_int := PySem.W.mg_none_of X G z4
    z_isinstance := PySem.W.mg_none_of X G z5
    z_len := PySem.W.mg_none_of X G z6
    z_list := PySem.W.mg_none_of X G z7
    z_max := PySem.W.mg_none_of X G z8
    z_min := PySem.W.mg_none_of X G z9
    z_range := PySem.W.mg_none_of X G z10
    z_sorted := PySem.W.mg_none_of X G z11
    z_str := PySem.W.mg_none_of X G z12
    z_sum := PySem.W.mg_none_of X G z13
    z_tuple := PySem.W.mg_none_of X G z14 }
  let D : DefAt K mg "law" (topS 51) ["_law_script"] := mkDef X G (ps := ["_law_script"]) a42 l42 c42 k42 fun _ _ _ _ _ _ us hl => match us, hl with | [_], _ => rfl
  exact ⟨D.fd, fun s v => .of_eq rfl, fun base _ _ => ok_law T D⟩
end
end L2.K21
open PySem PySem.W PyProof.Rows
set_option maxHeartbeats 0 in
theorem PySem.Challenge.cw_tidefold_k21_sittings_are_kept_on_holds : PySem.Challenge.rw_tidefold_k21_sittings_are_kept_on.Holds := by
  w_on; o_law; k_head; (case hw => w_witness2)
  k_fill
  refine L2.walk_of (l := PySem.Challenge.rw_tidefold_k21_sittings_are_kept_on) (n := 63) (k := 9) (x := "_law_script") (CX := fun _ => L2.CX0) (sp := fun w => L2.K21.spLaw _) rfl (by decide) rfl ⟨rfl, by decide, by decide⟩ (fun w h Y => PySem.W.kIn_of Y) ?F (fun _ _ a ns hl _ hS => ⟨a, ns, rfl, hS, fun _ => rfl⟩) (fun _ _ _ _ _ h => h)
  case F =>
    intro w mg fa h KX G hmg
    refine' L2.K21.all_mk KX G hmg ?a0 ?l0 ?c0 ?k0 ?a1 ?l1 ?c1 ?k1 ?a2 ?l2 ?c2 ?k2 ?a3 ?l3 ?c3 ?k3 ?a4 ?l4 ?c4 ?k4 ?a5 ?l5 ?c5 ?k5 ?a6 ?l6 ?c6 ?k6 ?a7 ?l7 ?c7 ?k7 ?a8 ?l8 ?c8 ?k8 ?a9 ?l9 ?c9 ?k9 ?a10 ?l10 ?c10 ?k10 ?a11 ?l11 ?c11 ?k11 ?a12 ?l12 ?c12 ?k12 ?a13 ?l13 ?c13 ?k13 ?a14 ?l14 ?c14 ?k14 ?a15 ?l15 ?c15 ?k15 ?a16 ?l16 ?c16 ?k16 ?a17 ?l17 ?c17 ?k17 ?a18 ?l18 ?c18 ?k18 ?a19 ?l19 ?c19 ?k19 ?a20 ?l20 ?c20 ?k20 ?a21 ?l21 ?c21 ?k21 ?a22 ?l22 ?c22 ?k22 ?a23 ?l23 ?c23 ?k23 ?a24 ?l24 ?c24 ?k24 ?a25 ?l25 ?c25 ?k25 ?a26 ?l26 ?c26 ?k26 ?a27 ?l27 ?c27 ?k27 ?a28 ?l28 ?c28 ?k28 ?a29 ?l29 ?c29 ?k29 ?a30 ?l30 ?c30 ?k30 ?a31 ?l31 ?c31 ?k31 ?a32 ?l32 ?c32 ?k32 ?a33 ?l33 ?c33 ?k33 ?a34 ?l34 ?c34 ?k34 ?a35 ?l35 ?c35 ?k35 ?a36 ?l36 ?c36 ?k36 ?a37 ?l37 ?c37 ?k37 ?a38 ?l38 ?c38 ?k38 ?a39 ?l39 ?c39 ?k39 ?a40 ?l40 ?c40 ?k40 ?a41 ?l41 ?c41 ?k41 ?a42 ?l42 ?c42 ?k42 ?z0 ?z1 ?z2 ?z3 ?z4 ?z5 ?z6 ?z7 ?z8 ?z9 ?z10 ?z11 ?z12 ?z13 ?z14
    (case a0 => k_is)
    (case l0 => k_is)
    (case c0 => k_is)
    (case k0 => k_is)
    (case a1 => k_is)
    (case l1 => k_is)
    (case c1 => k_is)
    (case k1 => k_is)
    (case a2 => k_is)
    (case l2 => k_is)
    (case c2 => k_is)
    (case k2 => k_is)
    (case a3 => k_is)
    (case l3 => k_is)
    (case c3 => k_is)
    (case k3 => k_is)
    (case a4 => k_is)
    (case l4 => k_is)
    (case c4 => k_is)
    (case k4 => k_is)
    (case a5 => k_is)
    (case l5 => k_is)
    (case c5 => k_is)
    (case k5 => k_is)
    (case a6 => k_is)
    (case l6 => k_is)
    (case c6 => k_is)
    (case k6 => k_is)
    (case a7 => k_is)
    (case l7 => k_is)
    (case c7 => k_is)
    (case k7 => k_is)
    (case a8 => k_is)
    (case l8 => k_is)
    (case c8 => k_is)
    (case k8 => k_is)
    (case a9 => k_is)
    (case l9 => k_is)
    (case c9 => k_is)
    (case k9 => k_is)
    (case a10 => k_is)
    (case l10 => k_is)
    (case c10 => k_is)
    (case k10 => k_is)
    (case a11 => k_is)
    (case l11 => k_is)
    (case c11 => k_is)
    (case k11 => k_is)
    (case a12 => k_is)
    (case l12 => k_is)
    (case c12 => k_is)
    (case k12 => k_is)
    (case a13 => k_is)
    (case l13 => k_is)
    (case c13 => k_is)
    (case k13 => k_is)
    (case a14 => k_is)
    (case l14 => k_is)
    (case c14 => k_is)
    (case k14 => k_is)
    (case a15 => k_is)
    (case l15 => k_is)
    (case c15 => k_is)
    (case k15 => k_is)
    (case a16 => k_is)
    (case l16 => k_is)
    (case c16 => k_is)
    (case k16 => k_is)
    (case a17 => k_is)
    (case l17 => k_is)
    (case c17 => k_is)
    (case k17 => k_is)
    (case a18 => k_is)
    (case l18 => k_is)
    (case c18 => k_is)
    (case k18 => k_is)
    (case a19 => k_is)
    (case l19 => k_is)
    (case c19 => k_is)
    (case k19 => k_is)
    (case a20 => k_is)
    (case l20 => k_is)
    (case c20 => k_is)
    (case k20 => k_is)
    (case a21 => k_is)
    (case l21 => k_is)
    (case c21 => k_is)
    (case k21 => k_is)
    (case a22 => k_is)
    (case l22 => k_is)
    (case c22 => k_is)
    (case k22 => k_is)
    (case a23 => k_is)
    (case l23 => k_is)
    (case c23 => k_is)
    (case k23 => k_is)
    (case a24 => k_is)
    (case l24 => k_is)
    (case c24 => k_is)
    (case k24 => k_is)
    (case a25 => k_is)
    (case l25 => k_is)
    (case c25 => k_is)
    (case k25 => k_is)
    (case a26 => k_is)
    (case l26 => k_is)
    (case c26 => k_is)
    (case k26 => k_is)
    (case a27 => k_is)
    (case l27 => k_is)
    (case c27 => k_is)
    (case k27 => k_is)
    (case a28 => k_is)
    (case l28 => k_is)
    (case c28 => k_is)
    (case k28 => k_is)
    (case a29 => k_is)
    (case l29 => k_is)
    (case c29 => k_is)
    (case k29 => k_is)
    (case a30 => k_is)
    (case l30 => k_is)
    (case c30 => k_is)
    (case k30 => k_is)
    (case a31 => k_is)
    (case l31 => k_is)
    (case c31 => k_is)
    (case k31 => k_is)
    (case a32 => k_is)
    (case l32 => k_is)
    (case c32 => k_is)
    (case k32 => k_is)
    (case a33 => k_is)
    (case l33 => k_is)
    (case c33 => k_is)
    (case k33 => k_is)
    (case a34 => k_is)
    (case l34 => k_is)
    (case c34 => k_is)
    (case k34 => k_is)
    (case a35 => k_is)
    (case l35 => k_is)
    (case c35 => k_is)
    (case k35 => k_is)
    (case a36 => k_is)
    (case l36 => k_is)
    (case c36 => k_is)
    (case k36 => k_is)
    (case a37 => k_is)
    (case l37 => k_is)
    (case c37 => k_is)
    (case k37 => k_is)
    (case a38 => k_is)
    (case l38 => k_is)
    (case c38 => k_is)
    (case k38 => k_is)
    (case a39 => k_is)
    (case l39 => k_is)
    (case c39 => k_is)
    (case k39 => k_is)
    (case a40 => k_is)
    (case l40 => k_is)
    (case c40 => k_is)
    (case k40 => k_is)
    (case a41 => k_is)
    (case l41 => k_is)
    (case c41 => k_is)
    (case k41 => k_is)
    (case a42 => k_is)
    (case l42 => k_is)
    (case c42 => k_is)
    (case k42 => k_is)
    (case z0 => k_is)
    (case z1 => k_is)
    (case z2 => k_is)
    (case z3 => k_is)
    (case z4 => k_is)
    (case z5 => k_is)
    (case z6 => k_is)
    (case z7 => k_is)
    (case z8 => k_is)
    (case z9 => k_is)
    (case z10 => k_is)
    (case z11 => k_is)
    (case z12 => k_is)
    (case z13 => k_is)
    (case z14 => k_is)
