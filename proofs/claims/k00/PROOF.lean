import PyProof.Rows.All
import Wide.All
import OpenK.AllK
import Wide.FinOn
import HandS.ForMost
import HandS.Defaults
import HandS.Exc
import HandS.Evl
import HandS.Walk
import HandS.TupAny
import HandS.IsInst
import HandS.CallSlots
import HandS.ExcInit
import HandS.Wide
import KE.SortData
import KE.DataCmp
import KE.KDictWalk
import HandS.More
import HandS.Conv
import HandS.ExcOwn
import HandS.TryOnly
import HandS.TryMany
import HandS.ExcIs
import HandS.ExcBuiltin
import HandS.Deep
import HandS.TupLe
import HandS.OwnEq
import PyProof.InstNe
import HandS.DictComp
import HandS.Iter
import KE.GoesMore
import HandS.Style
import HandS.Strs
import HandS.Head2
import HandS.HeadHook2
import HandS.HeadEnd
import PySem.Challenge.RW_setnotseen_k00_webs
set_option Elab.async false
set_option linter.all false
set_option maxRecDepth 100000
set_option maxHeartbeats 1000000
namespace RF
open PySem PySem.Spec PyProof.Rows L2 Evl
mutual
def keyOk : Nat → PyData → Bool
  | _, .int _ => true
  | _, .str x => PyData.strOk x
  | n + 1, .tuple ds => keyOks n ds
  | _, _ => false
def keyOks : Nat → List PyData → Bool
  | _, [] => true
  | n, d :: r => keyOk n d && keyOks n r
end
mutual
def hashD (w : World) : PyData → Int
  | .int i => hashInt i
  | .str x => hashStr w x
  | .tuple ds => reduceHash (Builtin.Tuple.tupleHashOf (hashDs w ds))
  | _ => 0
def hashDs (w : World) : List PyData → List Int
  | [] => []
  | d :: r => hashD w d :: hashDs w r
end
mutual
def drawD : PyData → Nat
  | .tuple ds => drawDs ds + 1
  | _ => 1
def drawDs : List PyData → Nat
  | [] => 0
  | d :: r => drawD d + drawDs r
end
section
variable {prog : Program} {w : World} {A : Around} {E : Value → Shared → Prop} {s : Shared} {h h' : Heap}
theorem ko_none (n : Nat) : keyOk n .none = false := by cases n <;> simp [keyOk]
theorem ko_bool (n : Nat) (b : Bool) : keyOk n (.bool b) = false := by cases n <;> simp [keyOk]
theorem ko_list (n : Nat) (b : List PyData) : keyOk n (.list b) = false := by cases n <;> simp [keyOk]
theorem ko_dict (n : Nat) (b : List (PyData × PyData)) : keyOk n (.dict b) = false := by cases n <;> simp [keyOk]
theorem ko_int (n : Nat) (b : Int) : keyOk n (.int b) = true := by cases n <;> simp [keyOk]
theorem ko_str (n : Nat) (b : Str) : keyOk n (.str b) = PyData.strOk b := by cases n <;> simp [keyOk]
theorem ko_tup0 (b : List PyData) : keyOk 0 (.tuple b) = false := by simp [keyOk]
theorem ko_tup (n : Nat) (b : List PyData) : keyOk (n + 1) (.tuple b) = keyOks n b := by simp [keyOk]
theorem kos_cons (n : Nat) (d : PyData) (b : List PyData) : keyOks n (d :: b) = (keyOk n d && keyOks n b) := by rw [keyOks]
def HashAt (prog : Program) (w : World) (n : Nat) : Prop := ∀ (d : PyData) (v : Value) (as : List Addr) (A : Around) (E : Value → Shared → Prop) (s : Shared) (Q : Int → Shared → Prop), keyOk n d = true → Reads s.heap v d as → A.units + n < cLine → Q (hashD w d) { s with toks := s.toks + drawD d } → wpAny (model prog w) A (pyHash v) Q E s
theorem hash_loop {n : Nat} (ih : HashAt prog w n) {ds : List PyData} {vs : Array Value} {as : List Addr} {b : Array Int} (hk : keyOks n ds = true) (r : ReadsAll s.heap vs.toList ds as) (hA : A.units + n < cLine) {Q : Array Int → Shared → Prop} (q : ∀ b' : Array Int, b'.toList = b.toList ++ hashDs w ds → Q b' { s with toks := s.toks + drawDs ds }) :
    wpAny (model prog w) A (forIn vs b fun x r => do
      let h ← pyHash x
      pure (ForInStep.yield (r.push h))) Q E s := by
  refine wpAny_forIn_array' _ (fun rest b' s' => ∃ (ds2 : List PyData) (as2 : List Addr) (t : Nat), ReadsAll s.heap rest ds2 as2 ∧ keyOks n ds2 = true ∧ b'.toList ++ hashDs w ds2 = b.toList ++ hashDs w ds ∧ s' = { s with toks := t } ∧ t + drawDs ds2 = s.toks + drawDs ds) Q ?_ ?_ vs b ⟨ds, as, s.toks, r, hk, rfl, rfl, rfl⟩
  · rintro x rest b' s' ⟨ds2, as2, t, r2, k2, e2, rfl, t2⟩
    cases r2 with
    | cons h1 h2 =>
      rw [kos_cons, Bool.and_eq_true] at k2
      refine wpAny_bind (ih _ _ _ A E _ _ k2.1 h1 hA (wpAny_pure ⟨_, _, _, h2, k2.2, ?_, rfl, ?_⟩))
      · rw [← e2, hashDs]; simp
      · rw [drawDs] at t2
        show t + drawD _ + drawDs _ = _
        omega
  · rintro b' s' ⟨ds2, as2, t, r2, k2, e2, rfl, t2⟩
    cases r2
    rw [drawDs, Nat.add_zero] at t2
    rw [t2]
    refine q b' ?_
    rw [← e2, hashDs, List.append_nil]
theorem hash_at : ∀ n, HashAt prog w n
  | n, .int i, v, as, A, E, s, Q, hk, r, hA, q => by
    cases r with
    | int i t => exact wpAny_pyHash_int (by simpa [hashD, drawD] using q)
  | n, .str x, v, as, A, E, s, Q, hk, r, hA, q => by
    cases r with
    | str x t => exact wpAny_pyHash_str (by simpa [hashD, drawD] using q)
  | n + 1, .tuple ds, v, as, A, E, s, Q, hk, r, hA, q => by
    cases r with
    | tuple h1 h2 h3 h4 =>
      rename_i a o vs m
      have ht : IsTup s.heap a vs := ⟨o, h1, h2, m, h3⟩
      rw [ko_tup] at hk
      show wpAny _ _ (pyHashByItsType (.ref a)) _ _ _
      refine PySem.W.pyHash_slot ht.typeIs PySem.F.slot_tuple_hash PySem.F.entry_tuple_hash (PySem.F.args_tuple_hash_1 _) rfl (.inr (by omega)) ?_
      show wpAny _ _ (Builtin.Tuple.tupleItemsOf (.ref a) >>= _) _ _ s
      refine wpAny_bind (tupleItemsOf_ ht ?_)
      refine wpAny_bind ?_
      refine hash_loop (hash_at n) hk h4 (by show A.units + 1 + n < cLine; omega) fun b' hb => ?_
      show wpAny _ _ (mkInt _ >>= _) _ _ _
      refine wpAny_bind (wpAny_mkInt (wpAny_pure ⟨_, _, rfl, ?_⟩))
      rw [hb]
      simpa [hashD, drawD, Nat.add_assoc] using q
  | 0, .tuple ds, v, as, A, E, s, Q, hk, _, _, _ => by rw [ko_tup0] at hk; cases hk
  | n, .none, v, as, A, E, s, Q, hk, _, _, _ => by rw [ko_none] at hk; cases hk
  | n, .bool _, v, as, A, E, s, Q, hk, _, _, _ => by rw [ko_bool] at hk; cases hk
  | n, .list _, v, as, A, E, s, Q, hk, _, _, _ => by rw [ko_list] at hk; cases hk
  | n, .dict _, v, as, A, E, s, Q, hk, _, _, _ => by rw [ko_dict] at hk; cases hk
mutual
theorem key_eqv : ∀ (n m : Nat) (a b : PyData), keyOk n a = true → keyOk m b = true → (a.eqv b = true ↔ a = b)
  | n, m, .int i, .int j, _, _ => by simp [PyData.eqv]
  | n, m, .int i, .str j, _, _ => by simp [PyData.eqv]
  | n, m, .int i, .tuple j, _, _ => by simp [PyData.eqv]
  | n, m, .str i, .int j, _, _ => by simp [PyData.eqv]
  | n, m, .str i, .str j, _, _ => by simp [PyData.eqv]
  | n, m, .str i, .tuple j, _, _ => by simp [PyData.eqv]
  | n, m, .tuple i, .int j, _, _ => by simp [PyData.eqv]
  | n, m, .tuple i, .str j, _, _ => by simp [PyData.eqv]
  | 0, m, .tuple i, .tuple j, h, _ => by rw [ko_tup0] at h; cases h
  | n, 0, .tuple i, .tuple j, _, h => by rw [ko_tup0] at h; cases h
  | n + 1, m + 1, .tuple i, .tuple j, h, k => by
    rw [ko_tup] at h k
    have := keys_eqv n m i j h k
    simp only [PyData.eqv, PyData.tuple.injEq]
    exact this
  | n, m, .none, _, h, _ => by rw [ko_none] at h; cases h
  | n, m, .bool _, _, h, _ => by rw [ko_bool] at h; cases h
  | n, m, .list _, _, h, _ => by rw [ko_list] at h; cases h
  | n, m, .dict _, _, h, _ => by rw [ko_dict] at h; cases h
  | n, m, _, .none, _, h => by rw [ko_none] at h; cases h
  | n, m, _, .bool _, _, h => by rw [ko_bool] at h; cases h
  | n, m, _, .list _, _, h => by rw [ko_list] at h; cases h
  | n, m, _, .dict _, _, h => by rw [ko_dict] at h; cases h
theorem keys_eqv : ∀ (n m : Nat) (a b : List PyData), keyOks n a = true → keyOks m b = true → (PyData.eqvAll a b = true ↔ a = b)
  | n, m, [], [], _, _ => by simp [PyData.eqvAll]
  | n, m, [], _ :: _, _, _ => by simp [PyData.eqvAll]
  | n, m, _ :: _, [], _, _ => by simp [PyData.eqvAll]
  | n, m, x :: a, y :: b, h, k => by
    rw [kos_cons, Bool.and_eq_true] at h k
    simp only [PyData.eqvAll, Bool.and_eq_true, key_eqv n m x y h.1 k.1, keys_eqv n m a b h.2 k.2, List.cons.injEq]
end
mutual
theorem key_lay : ∀ (n : Nat) (a : PyData), keyOk n a = true → a.canLay0 = true ∧ a.depth ≤ n
  | n, .int i, _ => by simp [PyData.canLay0, PyData.depth]
  | n, .str i, h => by
    rw [ko_str] at h
    simp [PyData.canLay0, PyData.depth, h]
  | n + 1, .tuple i, h => by
    rw [ko_tup] at h
    have := keys_lay n i h
    simp only [PyData.canLay0, PyData.depth]
    exact ⟨this.1, by omega⟩
  | 0, .tuple i, h => by rw [ko_tup0] at h; cases h
  | n, .none, h => by rw [ko_none] at h; cases h
  | n, .bool _, h => by rw [ko_bool] at h; cases h
  | n, .list _, h => by rw [ko_list] at h; cases h
  | n, .dict _, h => by rw [ko_dict] at h; cases h
theorem keys_lay : ∀ (n : Nat) (a : List PyData), keyOks n a = true → PyData.canLayAll0 a = true ∧ PyData.depthAll a ≤ n
  | n, [], _ => by simp [PyData.canLayAll0, PyData.depthAll]
  | n, x :: a, h => by
    rw [kos_cons, Bool.and_eq_true] at h
    have h1 := key_lay n x h.1
    have h2 := keys_lay n a h.2
    simp only [PyData.canLayAll0, PyData.depthAll, Bool.and_eq_true]
    exact ⟨⟨h1.1, h2.1⟩, by omega⟩
end
def ButAt (h h' : Heap) (n : Nat) : Prop := ∀ (d : PyData) (v : Value) (as : List Addr), keyOk n d = true → Reads h v d as → Reads h' v d as
theorem but_all {n : Nat} (ih : ButAt h h' n) : ∀ {ds : List PyData} {vs : List Value} {as : List Addr}, keyOks n ds = true → ReadsAll h vs ds as → ReadsAll h' vs ds as
  | _, _, _, _, .nil => .nil
  | _, _, _, hk, .cons h1 h2 => by
    rw [kos_cons, Bool.and_eq_true] at hk
    exact .cons (ih _ _ _ hk.1 h1) (but_all ih hk.2 h2)
theorem but_at {d : Addr} {o : Obj} {es : Array DictEntry} {ep : Nat} (ho : h.get? d = some o) (hd : o.data = .dict es ep) (sb : Heap.SameBut d h h') : ∀ n, ButAt h h' n
  | n, .int i, v, as, hk, r => by cases r; exact .int _ _
  | n, .str i, v, as, hk, r => by cases r; exact .str _ _
  | n + 1, .tuple ds, v, as, hk, r => by
    rw [ko_tup] at hk
    cases r with
    | tuple h1 h2 h3 h4 =>
      refine .tuple ((sb.2 _ ?_).trans h1) h2 h3 (but_all (but_at ho hd sb n) hk h4)
      rintro rfl
      rw [ho] at h1
      cases h1
      rw [hd] at h3
      cases h3
  | 0, .tuple ds, v, as, hk, _ => by rw [ko_tup0] at hk; cases hk
  | n, .none, v, as, hk, _ => by rw [ko_none] at hk; cases hk
  | n, .bool _, v, as, hk, _ => by rw [ko_bool] at hk; cases hk
  | n, .list _, v, as, hk, _ => by rw [ko_list] at hk; cases hk
  | n, .dict _, v, as, hk, _ => by rw [ko_dict] at hk; cases hk
def QuietAt (prog : Program) (w : World) (n : Nat) : Prop := ∀ (d : PyData) (v : Value) (as : List Addr) (A : Around) (E : Value → Shared → Prop) (s : Shared) (Q : Bool → Shared → Prop), keyOk n d = true → Reads s.heap v d as → Q true s → wpAny (model prog w) A (eqIsQuiet n v) Q E s
theorem quiet_at : ∀ n, QuietAt prog w n
  | n, .int i, v, as, A, E, s, Q, hk, r, q => by
    cases r
    cases n <;> exact wpAny_pure q
  | n, .str i, v, as, A, E, s, Q, hk, r, q => by
    cases r
    cases n <;> exact wpAny_pure q
  | n + 1, .tuple ds, v, as, A, E, s, Q, hk, r, q => by
    rw [ko_tup] at hk
    cases r with
    | tuple h1 h2 h3 h4 =>
      rename_i a o vs m
      have ht : IsTup s.heap a vs := ⟨o, h1, h2, m, h3⟩
      unfold eqIsQuiet
      refine wpAny_bind (wpAny_specialOf ht.typeIs PySem.F.slot_tuple_eq.lookup ?_)
      refine wpAny_bind (wpAny_isInstance (b := true) ht.typeIs rfl ?_)
      refine wpAny_bind (wpAny_seqItems h1 h3 ?_)
      refine wpAny_bind (wpAny_forIn_array' _ (fun rest b s' => s' = s ∧ b = (none, ()) ∧ ∃ ds2 as2, ReadsAll s.heap rest ds2 as2 ∧ keyOks n ds2 = true) _ ?_ ?_ vs _ ⟨rfl, rfl, ds, as, h4, hk⟩)
      · rintro x rest b s' ⟨rfl, rfl, ds2, as2, r2, k2⟩
        cases r2 with
        | cons g1 g2 =>
          rw [kos_cons, Bool.and_eq_true] at k2
          exact wpAny_bind (quiet_at n _ _ _ A E _ _ k2.1 g1 (wpAny_pure ⟨rfl, rfl, _, _, g2, k2.2⟩))
      · rintro b s' ⟨rfl, rfl, _⟩
        exact wpAny_pure q
  | 0, .tuple ds, v, as, A, E, s, Q, hk, _, _ => by rw [ko_tup0] at hk; cases hk
  | n, .none, v, as, A, E, s, Q, hk, _, _ => by rw [ko_none] at hk; cases hk
  | n, .bool _, v, as, A, E, s, Q, hk, _, _ => by rw [ko_bool] at hk; cases hk
  | n, .list _, v, as, A, E, s, Q, hk, _, _ => by rw [ko_list] at hk; cases hk
  | n, .dict _, v, as, A, E, s, Q, hk, _, _ => by rw [ko_dict] at hk; cases hk
end
abbrev NKey := { d : PyData // keyOk 8 d = true }
noncomputable instance : DecidableEq NKey := fun a b => Classical.propDecidable (a = b)
noncomputable def nestKind (prog : Program) (w : World) : HeapKind prog w NKey where
  is := fun h k a => ∃ as, Reads h (.ref a) k.1 as
  hash := fun k => hashD w k.1
  draws := fun k => drawD k.1
  room := fun A => A.units + 9 < cLine
  inj := fun ⟨_, h⟩ ⟨_, h'⟩ => Subtype.ext (h.unique _ _ h').1
  keeps := fun {_ _ k _ _ _ _ _} ⟨as, r⟩ ho hd sb => ⟨as, but_at ho hd sb 8 k.1 _ _ k.2 r⟩
  pyHash := fun {A E s k a Q} hA ⟨as, r⟩ q => hash_at 8 k.1 _ as A E s Q k.2 r (by omega) q
  eqBool := fun {A E s x y a b Q} hA ⟨as, r⟩ ⟨bs, t⟩ q => by
    have lx := key_lay 8 x.1 x.2
    have ly := key_lay 8 y.1 y.2
    refine SeqAt.eqAt_reads x.1 y.1 A s _ _ as bs r t lx.1 ly.1 (by have := lx.2; omega) prog w E Q ?_
    have : x.1.eqv y.1 = decide (x = y) := by
      rw [Bool.eq_iff_iff, key_eqv 8 8 _ _ x.2 y.2, decide_eq_true_eq]
      exact ⟨fun h => Subtype.ext h, fun h => congrArg _ h⟩
    rw [this]
    exact q
  quiet := fun {A E s k a Q} ⟨as, r⟩ q => quiet_at 8 k.1 _ as A E s Q k.2 r q
def dN (w : World) (a : Addr) (xs : List (NKey × Addr × Value)) : HO := .ext fun h =>
  (a == sysModules) = false ∧ xs.length ≤ sizeLine ∧ (xs.map fun x => x.1).Nodup ∧ ∃ o es ep, h.get? a = some o ∧ o.ExactDict ∧ o.data = .dict es ep ∧ es.toList = xs.map fun x => (⟨hashD w x.1.1, .ref x.2.1, x.2.2⟩ : DictEntry)
theorem dN_of {prog : Program} {w : World} {h : Heap} {a : Addr} {xs : List (NKey × Addr × Value)} (hs : (a == sysModules) = false) (hl : xs.length ≤ sizeLine) (hd : Heap.DictOfH (nestKind prog w) h a xs) (H : Hp) : ObjOk prog w H h a (dN w a xs) := by
  obtain ⟨o, es, ep, h1, h2, h3, h4, h5, h6⟩ := hd
  refine ⟨⟨hs, hl, h6, o, es, ep, h1, h2, h3, h4⟩, ⟨o, h1⟩, ?_⟩
  rintro g1 g2 ⟨k1, k2, k3, o, es, ep, k4, k5⟩ hk
  exact ⟨k1, k2, k3, o, es, ep, hk o k4, k5⟩
theorem dN_to {prog : Program} {w : World} {h : Heap} {a : Addr} {xs : List (NKey × Addr × Value)} {H : Hp} (ok : ObjOk prog w H h a (dN w a xs)) (hk : ∀ x ∈ xs, (nestKind prog w).is h x.1 x.2.1) : (a == sysModules) = false ∧ xs.length ≤ sizeLine ∧ Heap.DictOfH (nestKind prog w) h a xs := by
  obtain ⟨⟨k1, k2, k3, o, es, ep, k4, k5, k6, k7⟩, _⟩ := ok
  exact ⟨k1, k2, o, es, ep, k4, k5, k6, k7, hk, k3⟩
end RF
namespace RF
open PySem
inductive PV where
  | non
  | bl (b : Bool)
  | int (i : Int)
  | str (x : Str)
  | tup (xs : List PV)
  | lst (xs : List PV)
  | xls (xs : List PV)
  | dic (kvs : List (PV × PV))
  | ins (c : Nat) (fs : List (Nat × PV))
  deriving Inhabited
inductive Slot where
  | dead
  | val (v : PV)
  | olst (xs : List PV)
  | odic (kvs : List (PV × PV))
  | oins (c : Nat) (fs : List (Nat × Slot))
  | exn (c : Nat) (fs : List (Nat × PV))
  | own (ss : List Slot)
  deriving Inhabited
mutual
def PV.beq : PV → PV → Bool
  | .non, .non => true
  | .bl a, .bl b => a == b
  | .int a, .int b => a == b
  | .str a, .str b => a == b
  | .tup a, .tup b => PV.beqL a b
  | .lst a, .lst b => PV.beqL a b
  | .xls a, .xls b => PV.beqL a b
  | .dic a, .dic b => PV.beqK a b
  | .ins c a, .ins d b => c == d && PV.beqF a b
  | _, _ => false
def PV.beqL : List PV → List PV → Bool
  | [], [] => true
  | x :: xs, y :: ys => PV.beq x y && PV.beqL xs ys
  | _, _ => false
def PV.beqK : List (PV × PV) → List (PV × PV) → Bool
  | [], [] => true
  | (x, u) :: xs, (y, v) :: ys => PV.beq x y && PV.beq u v && PV.beqK xs ys
  | _, _ => false
def PV.beqF : List (Nat × PV) → List (Nat × PV) → Bool
  | [], [] => true
  | (n, u) :: xs, (m, v) :: ys => n == m && PV.beq u v && PV.beqF xs ys
  | _, _ => false
end
mutual
theorem PV.beq_iff : ∀ a b : PV, PV.beq a b = true ↔ a = b
  | .non, b => by cases b <;> simp [PV.beq]
  | .bl _, b => by cases b <;> simp [PV.beq]
  | .int _, b => by cases b <;> simp [PV.beq]
  | .str _, b => by cases b <;> simp [PV.beq]
  | .tup xs, b => by cases b <;> simp [PV.beq, PV.beqL_iff xs]
  | .lst xs, b => by cases b <;> simp [PV.beq, PV.beqL_iff xs]
  | .xls xs, b => by cases b <;> simp [PV.beq, PV.beqL_iff xs]
  | .dic xs, b => by cases b <;> simp [PV.beq, PV.beqK_iff xs]
  | .ins c xs, b => by cases b <;> simp [PV.beq, PV.beqF_iff xs]
theorem PV.beqL_iff : ∀ a b : List PV, PV.beqL a b = true ↔ a = b
  | [], b => by cases b <;> simp [PV.beqL]
  | x :: xs, b => by cases b <;> simp [PV.beqL, PV.beq_iff x, PV.beqL_iff xs]
theorem PV.beqK_iff : ∀ a b : List (PV × PV), PV.beqK a b = true ↔ a = b
  | [], b => by cases b <;> simp [PV.beqK]
  | (x, u) :: xs, b => by
    cases b with
    | nil => simp [PV.beqK]
    | cons p r => obtain ⟨y, v⟩ := p; simp [PV.beqK, PV.beq_iff x, PV.beq_iff u, PV.beqK_iff xs]
theorem PV.beqF_iff : ∀ a b : List (Nat × PV), PV.beqF a b = true ↔ a = b
  | [], b => by cases b <;> simp [PV.beqF]
  | (x, u) :: xs, b => by
    cases b with
    | nil => simp [PV.beqF]
    | cons p r => obtain ⟨y, v⟩ := p; simp [PV.beqF, PV.beq_iff u, PV.beqF_iff xs]
end
instance : DecidableEq PV := fun a b => decidable_of_iff _ (PV.beq_iff a b)
mutual
def Slot.beq : Slot → Slot → Bool
  | .dead, .dead => true
  | .val a, .val b => PV.beq a b
  | .olst a, .olst b => PV.beqL a b
  | .odic a, .odic b => PV.beqK a b
  | .oins c a, .oins d b => c == d && Slot.beqF a b
  | .exn c a, .exn d b => c == d && PV.beqF a b
  | .own a, .own b => Slot.beqL a b
  | _, _ => false
def Slot.beqF : List (Nat × Slot) → List (Nat × Slot) → Bool
  | [], [] => true
  | (n, u) :: xs, (m, v) :: ys => n == m && Slot.beq u v && Slot.beqF xs ys
  | _, _ => false
def Slot.beqL : List Slot → List Slot → Bool
  | [], [] => true
  | u :: xs, v :: ys => Slot.beq u v && Slot.beqL xs ys
  | _, _ => false
end
mutual
theorem Slot.beq_iff : ∀ a b : Slot, Slot.beq a b = true ↔ a = b
  | .dead, b => by cases b <;> simp [Slot.beq]
  | .val _, b => by cases b <;> simp [Slot.beq, PV.beq_iff]
  | .olst _, b => by cases b <;> simp [Slot.beq, PV.beqL_iff]
  | .odic _, b => by cases b <;> simp [Slot.beq, PV.beqK_iff]
  | .oins c xs, b => by cases b <;> simp [Slot.beq, Slot.beqF_iff xs]
  | .exn c xs, b => by cases b <;> simp [Slot.beq, PV.beqF_iff xs]
  | .own xs, b => by cases b <;> simp [Slot.beq, Slot.beqL_iff xs]
theorem Slot.beqF_iff : ∀ a b : List (Nat × Slot), Slot.beqF a b = true ↔ a = b
  | [], b => by cases b <;> simp [Slot.beqF]
  | (x, u) :: xs, b => by
    cases b with
    | nil => simp [Slot.beqF]
    | cons p r => obtain ⟨y, v⟩ := p; simp [Slot.beqF, Slot.beq_iff u, Slot.beqF_iff xs]
theorem Slot.beqL_iff : ∀ a b : List Slot, Slot.beqL a b = true ↔ a = b
  | [], b => by cases b <;> simp [Slot.beqL]
  | u :: xs, b => by
    cases b with
    | nil => simp [Slot.beqL]
    | cons p r => simp [Slot.beqL, Slot.beq_iff u, Slot.beqL_iff xs]
end
instance : DecidableEq Slot := fun a b => decidable_of_iff _ (Slot.beq_iff a b)
mutual
def frz : Slot → PV
  | .dead => .non
  | .val v => v
  | .olst xs => .lst xs
  | .odic kvs => .dic kvs
  | .oins c fs => .ins c (frzF fs)
  | .exn _ _ => .non
  | .own _ => .non
def frzF : List (Nat × Slot) → List (Nat × PV)
  | [] => []
  | (n, s) :: r => (n, frz s) :: frzF r
end
mutual
def live : Slot → Bool
  | .dead => false
  | .exn _ _ => false
  | .own _ => false
  | .oins _ fs => liveF fs
  | _ => true
def liveF : List (Nat × Slot) → Bool
  | [] => true
  | (_, s) :: r => live s && liveF r
end
mutual
def toD : PV → PyData
  | .non => .none
  | .bl b => .bool b
  | .int i => .int i
  | .str x => .str x
  | .tup xs => .tuple (toDs xs)
  | .lst xs => .list (toDs xs)
  | .xls _ => .dict []
  | .dic _ => .dict []
  | .ins _ _ => .dict []
def toDs : List PV → List PyData
  | [] => []
  | x :: r => toD x :: toDs r
end
theorem toDs_map : ∀ xs : List PV, toDs xs = xs.map toD
  | [] => rfl
  | x :: r => by rw [toDs, toDs_map r]; rfl
abbrev Env := List Slot
structure Exn where
  c : Nat
  fs : List (Nat × PV)
inductive R (α : Type) where
  | ok (a : α) (e : Env)
  | exc (x : Exn) (e : Env)
  | bad
def R.bind {α β : Type} (r : R α) (f : α → Env → R β) : R β :=
  match r with
  | .ok a e => f a e
  | .exc x e => .exc x e
  | .bad => .bad
inductive CR where
  | ok (s : Slot) (as : List Slot)
  | exc (x : Exn) (as : List Slot)
  | bad
inductive SR where
  | nx (e : Env)
  | rt (s : Slot) (e : Env)
  | bk (e : Env)
  | ct (e : Env)
  | exc (x : Exn) (e : Env)
  | bad
inductive EV where
  | sl (s : Slot)
  | pl (i : Nat) (fs : List Nat)
  deriving Inhabited
def fldS (f : Nat) : List (Nat × Slot) → Option Slot
  | [] => none
  | (n, s) :: r => if n = f then some s else fldS f r
def fldV (f : Nat) : List (Nat × PV) → Option PV
  | [] => none
  | (n, s) :: r => if n = f then some s else fldV f r
def ixB : Nat := 1000000
def getS : Slot → List Nat → Option Slot
  | s, [] => some s
  | .oins _ fs, f :: r => match fldS f fs with
    | some s => getS s r
    | none => none
  | .val (.ins _ fs), f :: r => match fldV f fs with
    | some v => getS (.val v) r
    | none => none
  | .own ss, f :: r => if ixB ≤ f then match ss[f - ixB]? with
      | some s => getS s r
      | none => none
    else none
  | _, _ :: _ => none
def getP (e : Env) (i : Nat) (fs : List Nat) : Option Slot := match e[i]? with
  | some s => getS s fs
  | none => none
def setF (f : Nat) (s : Slot) : List (Nat × Slot) → List (Nat × Slot)
  | [] => []
  | (n, x) :: r => if n = f then (n, s) :: r else (n, x) :: setF f s r
def setS : Slot → List Nat → Slot → Slot
  | _, [], n => n
  | .oins c fs, f :: r, n => match fldS f fs with
    | some s => .oins c (setF f (setS s r n) fs)
    | none => .oins c fs
  | .own ss, f :: r, n => match ss[f - ixB]? with
    | some s => .own (ss.set (f - ixB) (setS s r n))
    | none => .own ss
  | s, _ :: _, _ => s
def setP (e : Env) (i : Nat) (fs : List Nat) (n : Slot) : Env := match e[i]? with
  | some s => e.set i (setS s fs n)
  | none => e
def valOf (e : Env) : EV → Option PV
  | .sl s => if live s then some (frz s) else none
  | .pl i fs => match getP e i fs with
    | some s => if live s then some (frz s) else none
    | none => none
def valsOf (e : Env) : List EV → Option (List PV)
  | [] => some []
  | x :: r => match valOf e x, valsOf e r with
    | some v, some vs => some (v :: vs)
    | _, _ => none
def lim : Nat := 16000000
def okD (v : PV) : Bool := SeqAt.shaped (toD v)
def eqv (a b : PV) : Bool := PyData.eqv (toD a) (toD b)
def shallow (v : PV) : Bool := decide ((toD v).depth ≤ 60)
def cmpOk (a b : PV) : Bool := PySem.W.alike (toD a) (toD b) && PySem.W.alike (toD a) (toD a) && PySem.W.alike (toD b) (toD b) && shallow a && (match a with | .non => false | _ => true)
def cmpv (p : Int → Int → Bool) (k : PyData → PyData → Bool) (a b : PV) : Option Slot := match a, b with
  | .int i, .int j => some (.val (.bl (p i j)))
  | a, b => if cmpOk a b then some (.val (.bl (k (toD a) (toD b)))) else none
def sortable (xs : List PV) : Bool :=
  (xs.all fun a => xs.all fun b => PySem.W.alike (toD a) (toD b)) && xs.all shallow && (xs.all (fun a => match a with | .tup (_ :: _) => true | _ => false) || xs.all fun a => match a with | .tup _ => false | .non => false | _ => true)
def sortV (xs : List PV) : List PV := xs.mergeSort fun a b => !PySem.W.dataLt (toD b) (toD a)
def intsOf : List PV → Option (List Int)
  | [] => some []
  | .int i :: r => (intsOf r).map (i :: ·)
  | _ :: _ => none
def blsOf : List PV → Option (List Bool)
  | [] => some []
  | .bl i :: r => (blsOf r).map (i :: ·)
  | _ :: _ => none
def truV : PV → Option Bool
  | .non => some false
  | .bl b => some b
  | .int i => some (i != 0)
  | .str x => if x.length ≤ 1000000 then some (x.length != 0) else none
  | .tup xs => some !xs.isEmpty
  | .lst xs => some !xs.isEmpty
  | .xls xs => some !xs.isEmpty
  | .dic _ => none
  | .ins _ _ => none
def atV (xs : List PV) (i : Int) : Option PV := L2.atI xs i
def cutP (xs : List PV) (lo hi : Option Int) : List PV := (xs.drop (HT.sIx xs.length 0 lo)).take (HT.sIx xs.length xs.length hi - HT.sIx xs.length 0 lo)
def stpL {α : Type} (xs : List α) (lo : Option Int) (c : Int) : List α :=
  (List.range (Builtin.Slice.slicePlaces (Builtin.Slice.sliceAdjust lo none c (xs.length : Int)).1 (Builtin.Slice.sliceAdjust lo none c (xs.length : Int)).2 c)).filterMap fun m : Nat => xs[((Builtin.Slice.sliceAdjust lo none c (xs.length : Int)).1 + (m : Int) * c).toNat]?
def flatK : PV → Bool
  | .int _ => true
  | .str _ => true
  | _ => false
def nestK (p : PV) : Bool := match p with
  | .tup _ => keyOk 8 (toD p)
  | _ => false
def famK (a b : PV) : Bool := (flatK a && flatK b) || (nestK a && nestK b)
def dKeyOk (kvs : List (PV × PV)) (k : PV) : Bool := famK k k && kvs.all fun p => famK p.1 k
def dGet (kvs : List (PV × PV)) (k : PV) : Option PV := (kvs.find? fun p => decide (p.1 = k)).map (·.2)
def dPut (kvs : List (PV × PV)) (k v : PV) : List (PV × PV) := if kvs.any fun p => decide (p.1 = k) then kvs.map fun p => if p.1 = k then (p.1, v) else p else kvs ++ [(k, v)]
inductive Ty where
  | int | bool | str | tuple | list | dict
  deriving DecidableEq
def isTy : Ty → PV → Option Bool
  | .int, .int _ => some true
  | .int, .bl _ => some true
  | .bool, .bl _ => some true
  | .str, .str _ => some true
  | .tuple, .tup _ => some true
  | .list, .lst _ => some true
  | .list, .xls _ => some true
  | _, .dic _ => none
  | _, _ => some false
inductive P1 where
  | neg | len | tupleOf | listOf | sorted | sum | all | any | min | max | isNone | notNone | notB | intOf | isT (t : Ty) (cs : List Nat) | isC (c : Nat) (cs : List Nat) | stp (lo : Option Int) (c : Int) | rev
def isN : PV → Bool
  | .non => true
  | _ => false
def op1 : P1 → PV → Option Slot
  | .neg, .int i => some (.val (.int (-i)))
  | .len, .tup xs => some (.val (.int xs.length))
  | .len, .lst xs => some (.val (.int xs.length))
  | .len, .xls xs => some (.val (.int xs.length))
  | .tupleOf, .tup xs => some (.val (.tup xs))
  | .tupleOf, .lst xs => some (.val (.tup xs))
  | .listOf, .tup xs => some (.olst xs)
  | .listOf, .lst xs => some (.olst xs)
  | .listOf, .xls xs => some (.olst xs)
  | .listOf, .dic kvs => some (.olst (kvs.map (·.1)))
  | .sorted, .lst xs => if sortable xs then some (.olst (sortV xs)) else none
  | .sorted, .tup xs => if sortable xs then some (.olst (sortV xs)) else none
  | .sorted, .dic kvs => if sortable (kvs.map (·.1)) then some (.olst (sortV (kvs.map (·.1)))) else none
  | .len, .dic kvs => if kvs.all fun p => flatK p.1 then some (.val (.int kvs.length)) else none
  | .sum, .lst xs => (intsOf xs).map fun is => .val (.int is.sum)
  | .all, .lst xs => (blsOf xs).map fun bs => .val (.bl (bs.all id))
  | .any, .lst xs => (blsOf xs).map fun bs => .val (.bl (bs.any id))
  | .isNone, v => some (.val (.bl (isN v)))
  | .notNone, v => some (.val (.bl (!isN v)))
  | .stp lo c, .tup xs => if (stpL xs lo c).length ≤ lim then some (.val (.tup (stpL xs lo c))) else none
  | .rev, .lst xs => some (.olst xs.reverse)
  | .notB, .bl b => some (.val (.bl (!b)))
  | .intOf, .int i => some (.val (.int i))
  | .intOf, .bl b => some (.val (.int (if b then 1 else 0)))
  | .isT t cs, .ins d _ => if cs.contains d then some (.val (.bl false)) else none
  | .isT t _, v => (isTy t v).map fun b => .val (.bl b)
  | .isC c cs, .ins d _ => if cs.contains d then some (.val (.bl (decide (d = c)))) else none
  | .isC _ _, .dic _ => none
  | .isC _ _, _ => some (.val (.bl false))
  | _, _ => none
inductive P2 where
  | add | sub | mul | mod | fdiv | eq | ne | lt | le | gt | ge | isIn | notIn | idx | min | max | index
def findV (xs : List PV) (y : PV) : Option Nat := xs.findIdx? fun x => eqv x y
def op2 : P2 → PV → PV → Option Slot
  | .add, .int i, .int j => some (.val (.int (i + j)))
  | .add, .tup xs, .tup ys => if xs.length + ys.length ≤ lim then some (.val (.tup (xs ++ ys))) else none
  | .add, .lst xs, .lst ys => if xs.length + ys.length ≤ lim then some (.olst (xs ++ ys)) else none
  | .sub, .int i, .int j => some (.val (.int (i - j)))
  | .mul, .int i, .int j => if (-(2 ^ 64) < i ∧ i < 2 ^ 64) ∨ (-(2 ^ 64) < j ∧ j < 2 ^ 64) then some (.val (.int (i * j))) else none
  | .mod, .int i, .int j => if 0 < j then some (.val (.int (i % j))) else none
  | .fdiv, .int i, .int j => if 0 < j ∧ j < 1073741824 then some (.val (.int (i / j))) else none
  | .eq, a, b => if okD a && okD b then some (.val (.bl (eqv a b))) else none
  | .ne, a, b => if okD a && okD b then some (.val (.bl (!eqv a b))) else none
  | .lt, a, b => cmpv (fun i j => decide (i < j)) (fun d e => PySem.W.dataLt d e) a b
  | .le, a, b => cmpv (fun i j => decide (i ≤ j)) (fun d e => !PySem.W.dataLt e d) a b
  | .gt, a, b => cmpv (fun i j => decide (j < i)) (fun d e => PySem.W.dataLt e d) a b
  | .ge, a, b => cmpv (fun i j => decide (j ≤ i)) (fun d e => !PySem.W.dataLt d e) a b
  | .isIn, a, .tup xs => if okD a && xs.all okD then some (.val (.bl (xs.any fun x => eqv x a))) else none
  | .isIn, a, .lst xs => if okD a && xs.all okD then some (.val (.bl (xs.any fun x => eqv x a))) else none
  | .isIn, a, .dic kvs => if dKeyOk kvs a then some (.val (.bl (dGet kvs a).isSome)) else none
  | .notIn, a, .dic kvs => if dKeyOk kvs a then some (.val (.bl (!(dGet kvs a).isSome))) else none
  | .notIn, a, .tup xs => if okD a && xs.all okD then some (.val (.bl (!xs.any fun x => eqv x a))) else none
  | .notIn, a, .lst xs => if okD a && xs.all okD then some (.val (.bl (!xs.any fun x => eqv x a))) else none
  | .idx, .tup xs, .int i => (atV xs i).map .val
  | .idx, .lst xs, .int i => (atV xs i).map .val
  | .idx, .xls xs, .int i => (atV xs i).map .val
  | .idx, .dic kvs, k => if dKeyOk kvs k then (dGet kvs k).map .val else none
  | .min, .int i, .int j => some (.val (.int (if j < i then j else i)))
  | .max, .int i, .int j => some (.val (.int (if j > i then j else i)))
  | .index, .lst xs, a => if okD a && okD (.lst xs) then (findV xs a).map fun k => .val (.int k) else none
  | _, _, _ => none
inductive Mut where
  | append | pop | popAt | extend
inductive T where
  | nop
  -- expressions
  | con (v : PV)
  | nam (i : Nat)
  | rdp (i : Nat) (fs : List Nat)
  | mov (i : Nat)
  | plc (i : Nat) (fs : List Nat)
  | gtv (i : Nat) (fs : List Nat)
  | fld (a : T) (f : Nat)
  | op1 (p : P1) (a : T)
  | op2 (p : P2) (a b : T)
  | chn (p q : P2) (a b c : T)
  | lix (a b : T)
  | tix (as b : T)
  | slc (a lo hi : T)
  | prt (a : T)
  | andV (t b : T)
  | orV (t b : T)
  | ife (t a b : T)
  | tup (as : T)
  | lst (as : T)
  | nil
  | cons (a r : T)
  | call (f : Nat) (as : T)
  | mak (c : Nat) (as : T)
  | mth (m : Nat) (o as : T)
  | mut (m : Mut) (i : Nat) (fs : List Nat) (as : T)
  | lc (own : List Nat) (it tg cs el : T)
  | lol (as : T)
  | plx (i : Nat) (fs : List Nat) (k : T)
  | mux (m : Mut) (i : Nat) (fs : List Nat) (k as : T)
  | dlc (own : List Nat) (it tg cs ke ve : T)
  | dct
  | lrng (as : T)
  | trng (as : T)
  | ieq (m : Nat) (a b : T)
  -- tests
  | tru (a : T)
  | bol (a : T)
  | notT (t : T)
  | andT (a b : T)
  | orT (a b : T)
  -- what a loop walks
  | isq (a : T)
  | irng (as : T)
  | irn3 (as : T)
  | ien (a : T)
  -- targets
  | tnm (i : Nat)
  | ttp (ts : T)
  -- statements
  | seq (a b : T)
  | asg (tg e : T)
  | aug (i : Nat) (p : P2) (e : T)
  | fset (i : Nat) (fs : List Nat) (f : Nat) (e : T)
  | iset (i : Nat) (fs : List Nat) (k e : T)
  | xpr (e : T)
  | sif (t a b : T)
  | whl (t b : T)
  | sfor (tg it b : T)
  | ret (e : T)
  | retN
  | rse (c : Nat) (as : T)
  | cnt
  | brk
  -- errors
  | tri (c : Nat) (ns : List Nat) (b su : T)
  | xis (i : Nat) (cs : List Nat)
structure Gl where
  sem : Nat → List Slot → CR
  ini : Nat → Option Nat
  met : Nat → Nat → Option Nat
  xat : Nat → Option (List Nat)
  att : Nat → Nat → Bool
  wf : Nat
  sub : Nat → Nat → Bool
  isx : Nat → Bool
def putA (f : Nat) (s : Slot) : List (Nat × Slot) → List (Nat × Slot)
  | [] => [(f, s)]
  | (n, x) :: r => if n = f then (n, s) :: r else (n, x) :: putA f s r
def readP (e : Env) (i : Nat) (fs : List Nat) : R EV := match getP e i fs with
  | some (.val v) => .ok (.sl (.val v)) e
  | some s => if live s then .ok (.sl (.val (frz s))) (setP e i fs (.val (frz s))) else .bad
  | none => .bad
def mutS : Mut → Slot → List PV → Option (Slot × Slot)
  | .append, .olst xs, [v] => if xs.length < lim then some (.val .non, .olst (xs ++ [v])) else none
  | .pop, .olst xs, [] => match xs.getLast? with
    | some v => some (.val v, .olst xs.dropLast)
    | none => none
  | .popAt, .olst xs, [.int i] => match L2.ixN xs.length i with
    | some k => match xs[k]? with
      | some v => if -(2 ^ 63) ≤ i ∧ i < 2 ^ 63 then some (.val v, .olst (xs.eraseIdx k)) else none
      | none => none
    | none => none
  | .extend, .olst xs, [.lst ys] => if xs.length + ys.length ≤ lim then some (.val .non, .olst (xs ++ ys)) else none
  | _, _, _ => none
def fits : Mut → Option Slot → Bool
  | .append, some (.olst _) => true
  | .pop, some (.olst _) => true
  | .popAt, some (.olst _) => true
  | .extend, some (.olst _) => true
  | _, _ => false
def fitsI : Option Slot → Bool
  | some (.olst _) => true
  | some (.odic _) => true
  | _ => false
def argOf (e : Env) : EV → Option Slot
  | .sl s => if live s then some s else none
  | .pl i fs => match getP e i fs with
    | some s => if live s then some s else none
    | none => none
def argsOf (e : Env) : List EV → Option (List Slot)
  | [] => some []
  | x :: r => match argOf e x, argsOf e r with
    | some s, some ss => some (s :: ss)
    | _, _ => none
def owned : Slot → Bool
  | .val _ => false
  | _ => true
def ownP (e : Env) : EV → Option (Nat × List Nat)
  | .pl i fs => match getP e i fs with
    | some s => if owned s then some (i, fs) else none
    | none => none
  | .sl _ => none
def roots : List (Option (Nat × List Nat)) → List Nat
  | [] => []
  | some (i, _) :: r => i :: roots r
  | none :: r => roots r
def backQ (e : Env) : List (Option (Nat × List Nat)) → List Slot → Env
  | some (i, fs) :: r, s :: ss => backQ (setP e i fs s) r ss
  | none :: r, _ :: ss => backQ e r ss
  | _, _ => e
def backP (e : Env) (xs : List EV) (ss : List Slot) : Env := backQ e (xs.map (ownP e)) ss
def rootsOk (e : Env) (as : List EV) : Bool := decide (roots (as.map (ownP e))).Nodup
def callR (sem : Nat → List Slot → CR) (f : Nat) (as : List EV) (e : Env) : R EV :=
  match argsOf e as with
  | some ss => if rootsOk e as then match sem f ss with
      | .ok s bs => if live s then .ok (.sl s) (backP e as bs) else .bad
      | .exc x bs => .exc x (backP e as bs)
      | .bad => .bad
    else .bad
  | none => .bad
def makR (g : Gl) (c : Nat) (as : List EV) (e : Env) : R EV :=
  match g.ini c, argsOf e as with
  | some f, some ss => if rootsOk e as then match g.sem f (.oins c [] :: ss) with
      | .ok (.val .non) (o :: bs) => if live o then .ok (.sl o) (backP e as bs) else .bad
      | .exc x (_ :: bs) => .exc x (backP e as bs)
      | _ => .bad
    else .bad
  | _, _ => .bad
def asgT : T → PV → Env → Option Env
  | .tnm i, v, e => some (e.set i (.val v))
  | .ttp ts, .tup xs, e => asgTs ts xs e
  | _, _, _ => none
where asgTs : T → List PV → Env → Option Env
  | .nil, [], e => some e
  | .cons t r, x :: xs, e => match asgT t x e with
    | some e' => asgTs r xs e'
    | none => none
  | _, _, _ => none
def sameAt (e0 e : Env) : EV → Bool
  | .pl i fs => decide (getP e i fs = getP e0 i fs)
  | .sl _ => true
def forL (tg : T) (ck : Env → Bool) (b : Env → SR) : List PV → Env → SR
  | [], e => .nx e
  | x :: xs, e => match asgT tg x e with
    | some e' => match b e' with
      | .nx e'' => if ck e'' then forL tg ck b xs e'' else .bad
      | .ct e'' => if ck e'' then forL tg ck b xs e'' else .bad
      | .bk e'' => .nx e''
      | r => r
    | none => .bad
def whlL (t : Env → R Bool) (b : Env → SR) : Nat → Env → SR
  | 0, _ => .bad
  | n + 1, e => match t e with
    | .ok true e' => match b e' with
      | .nx e'' => whlL t b n e''
      | .ct e'' => whlL t b n e''
      | .bk e'' => .nx e''
      | r => r
    | .ok false e' => .nx e'
    | .exc x e' => .exc x e'
    | .bad => .bad
def wipeE (e : Env) : List Nat → Env
  | [] => e
  | i :: r => (wipeE e r).set i .dead
def backE (e0 e : Env) : List Nat → Env
  | [] => e
  | i :: r => backE e0 (e.set i (e0.getD i .dead)) r
def lcL (tg : T) (own : List Nat) (ck : Env → Bool) (c : Env → R Bool) (el : Env → R EV) : List PV → List PV → Env → R (List PV)
  | [], acc, e => .ok acc e
  | x :: xs, acc, e => match asgT tg x e with
    | some e' => match c e' with
      | .ok true e'' => match el e'' with
        | .ok (.sl s) e3 => if live s && decide (acc.length < lim) && ck (wipeE e3 own) then lcL tg own ck c el xs (acc ++ [frz s]) (wipeE e3 own) else .bad
        | _ => .bad
      | .ok false e'' => if ck (wipeE e'' own) then lcL tg own ck c el xs acc (wipeE e'' own) else .bad
      | _ => .bad
    | none => .bad
def dcL (tg : T) (own : List Nat) (ck : Env → Bool) (c : Env → R Bool) (ke ve : Env → R EV) : List PV → List (PV × PV) → Env → R (List (PV × PV))
  | [], acc, e => .ok acc e
  | x :: xs, acc, e => match asgT tg x e with
    | some e' => match c e' with
      | .ok true e'' => match ke e'' with
        | .ok (.sl (.val k)) e3 => match ve e3 with
          | .ok (.sl s) e4 => if live s && (dKeyOk acc k && decide (acc.length < lim)) && ck (wipeE e4 own) then dcL tg own ck c ke ve xs (dPut acc k (frz s)) (wipeE e4 own) else .bad
          | _ => .bad
        | _ => .bad
      | .ok false e'' => if ck (wipeE e'' own) then dcL tg own ck c ke ve xs acc (wipeE e'' own) else .bad
      | _ => .bad
    | none => .bad
def plainAt (e : Env) (i : Nat) : Bool := match e[i]? with
  | some .dead => true
  | some (.val _) => true
  | _ => false
def strsOf : List PV → Option (List Str)
  | [] => some []
  | .str i :: r => (strsOf r).map (i :: ·)
  | _ :: _ => none
def tixV : PV → PV → Option Slot
  | .tup xs, .str z => match strsOf xs with
    | some ys => (ys.findIdx? (· == z)).map fun k : Nat => .val (.int k)
    | none => none
  | _, _ => none
def rngV (lo hi : Int) : List PV := (List.range (hi - lo).toNat).map fun k : Nat => .int (lo + (k : Int))
def big : Int := 1000000000
def walkOf (e : Env) : EV → Option (EV × PV)
  | .pl i [] => (valOf e (.pl i [])).map fun p => (.pl i [], p)
  | .pl i (f :: fs) => match getP e i (f :: fs) with
    | some (.val v) => some (.sl (.val v), v)
    | _ => none
  | .sl s => (valOf e (.sl s)).map fun p => (.sl s, p)
def itemsP : PV → Option (List PV)
  | .tup xs => some xs
  | .lst xs => some xs
  | .xls xs => some xs
  | _ => none
def rngOf : List PV → Option (List PV)
  | [.int n] => if -big < n ∧ n < big then some (rngV 0 n) else none
  | [.int a, .int b] => if -big < a ∧ a < big ∧ -big < b ∧ b < big then some (rngV a b) else none
  | _ => none
def rng3V (a c : Int) (n : Nat) : List PV := (List.range n).map fun k : Nat => .int (a + (k : Int) * c)
def rng3Of : List PV → Option (List PV)
  | [.int a, .int b, .int c] => if c ≠ 0 ∧ c.natAbs < 1073741824 ∧ Builtin.Range.small a b c = true ∧ 0 ≤ Builtin.Range.rangeSize a b c then some (rng3V a c (Builtin.Range.rangeSize a b c).toNat) else none
  | _ => none
def partOf : Option PV → Option (Option Int)
  | some .non => some none
  | some (.int i) => some (some i)
  | _ => none
def onlySl : EV → Env → R EV
  | .sl s, e => .ok (.sl s) e
  | .pl _ _, _ => .bad
def outO (o : Option Slot) (e : Env) : R EV := match o with
  | some s => .ok (.sl s) e
  | none => .bad
def kMov (i : Nat) (e : Env) : R EV := match e[i]? with
  | some (.val v) => .ok (.sl (.val v)) e
  | some s => if live s then .ok (.sl s) (e.set i .dead) else .bad
  | none => .bad
def kPlc (i : Nat) (fs : List Nat) (e : Env) : R EV := match getP e i fs with
  | some .dead => .bad
  | some _ => .ok (.pl i fs) e
  | none => .bad
def kGtv (i : Nat) (fs : List Nat) (e : Env) : R EV := match getP e i fs with
  | some (.val v) => .ok (.sl (.val v)) e
  | _ => .bad
def kFld (f : Nat) (v : EV) (e : Env) : R EV := match v with
  | .sl s => match getS s [f] with
    | some (.val p) => .ok (.sl (.val p)) e
    | _ => .bad
  | .pl _ _ => .bad
def kOp1 (p : P1) (v : EV) (e : Env) : R EV := match valOf e v with
  | some x => outO (op1 p x) e
  | none => .bad
def kOp2 (p : P2) (v w : EV) (e : Env) : R EV := match valOf e v, valOf e w with
  | some x, some y => outO (op2 p x y) e
  | _, _ => .bad
def isLst : Option PV → Bool
  | some (.lst _) => true
  | _ => false
def kChn (p : P2) (u v : EV) (e : Env) : R Bool := match valOf e u, valOf e v with
  | some x, some y => match op2 p x y with
    | some (.val (.bl b)) => .ok b e
    | _ => .bad
  | _, _ => .bad
def cutO (u : Option PV) (l h : Option Int) : Option Slot := match u with
  | some (.tup xs) => some (.val (.tup (cutP xs l h)))
  | some (.lst xs) => some (.olst (cutP xs l h))
  | _ => none
def kPrt (v : EV) (e : Env) : R (Option Int) := match valOf e v with
  | some (.int i) => .ok (some i) e
  | _ => .bad
def boolOf : EV → Option Bool
  | .sl (.val (.bl b)) => some b
  | _ => none
def upOf (e : Env) : EV → Option PV
  | .sl s => if live s then some (frz s) else none
  | .pl i fs => match getP e i fs with
    | some (.val v) => some v
    | _ => none
def upsOf (e : Env) : List EV → Option (List PV)
  | [] => some []
  | x :: r => match upOf e x, upsOf e r with
    | some v, some vs => some (v :: vs)
    | _, _ => none
def kTup (vs : List EV) (e : Env) : R EV := match upsOf e vs with
  | some xs => if xs.length ≤ lim then .ok (.sl (.val (.tup xs))) e else .bad
  | none => .bad
def kLst (vs : List EV) (e : Env) : R EV := match upsOf e vs with
  | some xs => if xs.length ≤ lim then .ok (.sl (.olst xs)) e else .bad
  | none => .bad
def clsOf : Option Slot → Option Nat
  | some (.oins c _) => some c
  | some (.val (.ins c _)) => some c
  | _ => none
def mthO (g : Gl) (m : Nat) (v : EV) (e : Env) : R Nat := match clsOf (argOf e v) with
  | some c => match g.met c m with
    | some f => .ok f e
    | none => .bad
  | none => .bad
def eqOk (e : Env) (v u : EV) : Bool := match clsOf (argOf e v), argOf e u with
  | some c, some t => decide (clsOf (some t) = some c) || (match t with
    | .val (.tup _) => true
    | _ => false)
  | _, _ => false
def kIeq (g : Gl) (m : Nat) (v u : EV) (e : Env) : R EV := if eqOk e v u then (mthO g m v e).bind fun f e => callR g.sem f [v, u] e else .bad
def argV : Mut → Env → List EV → Option (List PV)
  | .append, e, vs => upsOf e vs
  | _, e, vs => valsOf e vs
def kMut (m : Mut) (i : Nat) (fs : List Nat) (vs : List EV) (e : Env) : R EV := match getP e i fs, argV m e vs with
  | some s, some xs => match mutS m s xs with
    | some (r, s') => .ok (.sl r) (setP e i fs s')
    | none => .bad
  | _, _ => .bad
def kLrng (vs : List EV) (e : Env) : R EV := match valsOf e vs with
  | some xs => match rngOf xs with
    | some ys => if ys.length ≤ lim then .ok (.sl (.olst ys)) e else .bad
    | none => .bad
  | none => .bad
def kTrng (vs : List EV) (e : Env) : R EV := match valsOf e vs with
  | some xs => match rngOf xs with
    | some ys => if ys.length ≤ lim then .ok (.sl (.val (.tup ys))) e else .bad
    | none => .bad
  | none => .bad
def kTru (v : EV) (e : Env) : R Bool := match valOf e v with
  | some x => match truV x with
    | some k => .ok k e
    | none => .bad
  | none => .bad
def kBol (v : EV) (e : Env) : R Bool := match boolOf v with
  | some b => .ok b e
  | none => .bad
def kIsq (v : EV) (e : Env) : R (EV × List PV) := match walkOf e v with
  | some vp => match itemsP vp.2 with
    | some xs => .ok (vp.1, xs) e
    | none => .bad
  | none => .bad
def enumV (xs : List PV) : List PV := xs.zipIdx.map fun p => .tup [.int p.2, p.1]
def kIen (v : EV) (e : Env) : R (EV × List PV) := match walkOf e v with
  | some vp => match itemsP vp.2 with
    | some xs => .ok (vp.1, enumV xs) e
    | none => .bad
  | none => .bad
def kRng (vs : List EV) (e : Env) : R (EV × List PV) := match valsOf e vs with
  | some xs => match rngOf xs with
    | some ys => .ok (.sl (.val .non), ys) e
    | none => .bad
  | none => .bad
def kRng3 (vs : List EV) (e : Env) : R (EV × List PV) := match valsOf e vs with
  | some xs => match rng3Of xs with
    | some ys => .ok (.sl (.val .non), ys) e
    | none => .bad
  | none => .bad
def rootOut (own : List Nat) : EV → Bool
  | .pl i _ => !own.contains i
  | .sl _ => true
def kLc (own : List Nat) (tg : T) (c : Env → R Bool) (el : Env → R EV) (vxs : EV × List PV) (e : Env) : R EV :=
  if own.all (plainAt e) && rootOut own vxs.1 then match lcL tg own (fun e1 => sameAt (wipeE e own) e1 vxs.1) c el vxs.2 [] (wipeE e own) with
    | .ok acc e' => .ok (.sl (.olst acc)) (backE e e' own)
    | _ => .bad
  else .bad
def kDc (own : List Nat) (tg : T) (c : Env → R Bool) (ke ve : Env → R EV) (vxs : EV × List PV) (e : Env) : R EV :=
  if own.all (plainAt e) && rootOut own vxs.1 then match dcL tg own (fun e1 => sameAt (wipeE e own) e1 vxs.1) c ke ve vxs.2 [] (wipeE e own) with
    | .ok acc e' => .ok (.sl (.odic acc)) (backE e e' own)
    | _ => .bad
  else .bad
def ownsOf : List EV → Option (List Slot)
  | [] => some []
  | .sl s :: r => match ownsOf r with
    | some ss => if live s then some (s :: ss) else none
    | none => none
  | .pl _ _ :: _ => none
def kLol (vs : List EV) (e : Env) : R EV := match ownsOf vs with
  | some ss => if ss.length ≤ lim then .ok (.sl (.own ss)) e else .bad
  | none => .bad
def isOwn : Option Slot → Bool
  | some (.own _) => true
  | _ => false
def plxO (s : Option Slot) (k : Option PV) : Option Nat := match s, k with
  | some (.own ss), some (.int z) => match L2.ixN ss.length z with
    | some j => match ss[j]? with
      | some _ => some (ixB + j)
      | none => none
    | none => none
  | _, _ => none
def kPlx (i : Nat) (fs : List Nat) (w : EV) (e : Env) : R EV := match plxO (getP e i fs) (valOf e w) with
  | some j => .ok (.pl i (fs ++ [j])) e
  | none => .bad
def kXis (g : Gl) (cs : List Nat) (e : Env) : Option Slot → R EV
  | some (.exn c _) => .ok (.sl (.val (.bl (cs.any (g.sub c))))) e
  | _ => .bad
def kTix (v w : EV) (e : Env) : R EV := match valOf e v, valOf e w with
  | some x, some y => outO (tixV x y) e
  | _, _ => .bad
mutual
def evE (g : Gl) : T → Env → R EV
  | .con v, e => .ok (.sl (.val v)) e
  | .nam i, e => readP e i []
  | .rdp i fs, e => readP e i fs
  | .mov i, e => kMov i e
  | .plc i fs, e => kPlc i fs e
  | .gtv i fs, e => kGtv i fs e
  | .fld a f, e => (evE g a e).bind (kFld f)
  | .op1 p a, e => (evE g a e).bind (kOp1 p)
  | .op2 p a b, e => (evE g a e).bind fun v e => (evE g b e).bind (kOp2 p v)
  | .lix a b, e => (evE g a e).bind fun v e => if isLst (valOf e v) then (evE g b e).bind (kOp2 .index v) else .bad
  | .tix as b, e => ((evA g as e).bind kTup).bind fun v e => (evE g b e).bind (kTix v)
  | .chn p q a b c, e => (evE g a e).bind fun u e => (evE g b e).bind fun v e => (kChn p u v e).bind fun k e => match k with
    | true => (evE g c e).bind (kOp2 q v)
    | false => .ok (.sl (.val (.bl false))) e
  | .slc a lo hi, e => (evE g a e).bind fun u e => (evO g lo e).bind fun l e => (evO g hi e).bind fun h e => outO (cutO (valOf e u) l h) e
  | .andV t b, e => (evE g t e).bind fun v e => match boolOf v with
    | some true => (evE g b e).bind onlySl
    | some false => .ok (.sl (.val (.bl false))) e
    | none => .bad
  | .orV t b, e => (evE g t e).bind fun v e => match boolOf v with
    | some false => (evE g b e).bind onlySl
    | some true => .ok (.sl (.val (.bl true))) e
    | none => .bad
  | .ife t a b, e => (evT g t e).bind fun k e => match k with
    | true => (evE g a e).bind onlySl
    | false => (evE g b e).bind onlySl
  | .tup as, e => (evA g as e).bind kTup
  | .lst as, e => (evA g as e).bind kLst
  | .call f as, e => (evA g as e).bind (callR g.sem f)
  | .mak c as, e => (evA g as e).bind (makR g c)
  | .mth m o as, e => (evE g o e).bind fun v e => (mthO g m v e).bind fun f e => (evA g as e).bind fun vs => callR g.sem f (v :: vs)
  | .mut m i fs as, e => if fits m (getP e i fs) then (evA g as e).bind (kMut m i fs) else .bad
  | .lc own it tg cs el, e => (evI g it e).bind (kLc own tg (evT g cs) (evE g el))
  | .dlc own it tg cs ke ve, e => (evI g it e).bind (kDc own tg (evT g cs) (evE g ke) (evE g ve))
  | .dct, e => .ok (.sl (.odic [])) e
  | .lol as, e => (evA g as e).bind kLol
  | .plx i fs k, e => if isOwn (getP e i fs) then (evE g k e).bind (kPlx i fs) else .bad
  | .mux m i fs k as, e => if isOwn (getP e i fs) then (evE g k e).bind fun w e => match plxO (getP e i fs) (valOf e w) with
      | some j => if fits m (getP e i (fs ++ [j])) then (evA g as e).bind (kMut m i (fs ++ [j])) else .bad
      | none => .bad
    else .bad
  | .lrng as, e => (evA g as e).bind kLrng
  | .trng as, e => (evA g as e).bind kTrng
  | .ieq m a b, e => (evE g a e).bind fun v e => (evE g b e).bind (kIeq g m v)
  | .xis i cs, e => kXis g cs e e[i]?
  | _, _ => .bad
def evO (g : Gl) : T → Env → R (Option Int)
  | .nop, e => .ok none e
  | .prt a, e => (evE g a e).bind kPrt
  | _, _ => .bad
def evA (g : Gl) : T → Env → R (List EV)
  | .nil, e => .ok [] e
  | .cons a r, e => (evE g a e).bind fun v e => (evA g r e).bind fun vs e => .ok (v :: vs) e
  | _, _ => .bad
def evT (g : Gl) : T → Env → R Bool
  | .tru a, e => (evE g a e).bind kTru
  | .bol a, e => (evE g a e).bind kBol
  | .notT t, e => (evT g t e).bind fun k e => .ok (!k) e
  | .andT a b, e => (evT g a e).bind fun k e => match k with
    | true => evT g b e
    | false => .ok false e
  | .orT a b, e => (evT g a e).bind fun k e => match k with
    | true => .ok true e
    | false => evT g b e
  | .nop, e => .ok true e
  | _, _ => .bad
def evI (g : Gl) : T → Env → R (EV × List PV)
  | .isq a, e => (evE g a e).bind kIsq
  | .irng as, e => (evA g as e).bind kRng
  | .irn3 as, e => (evA g as e).bind kRng3
  | .ien a, e => (evE g a e).bind kIen
  | _, _ => .bad
end
def SR.of {α : Type} (r : R α) (f : α → Env → SR) : SR :=
  match r with
  | .ok a e => f a e
  | .exc x e => .exc x e
  | .bad => .bad
def kAsg (tg : T) (v : EV) (e : Env) : SR := match v with
  | .pl _ _ => .bad
  | .sl s => if live s then match tg with
      | .tnm i => .nx (e.set i s)
      | tg => match asgT tg (frz s) e with
        | some e' => .nx e'
        | none => .bad
    else match s, tg with
      | .own ss, .tnm i => .nx (e.set i (.own ss))
      | _, _ => .bad
def kFset (g : Gl) (i : Nat) (fs : List Nat) (f : Nat) (v : EV) (e : Env) : SR := match v, getP e i fs with
  | .sl s, some (.oins c as) => if live s && g.att c f && decide (as.length < 500) then .nx (setP e i fs (.oins c (putA f s as))) else .bad
  | _, _ => .bad
def kIset (i : Nat) (fs : List Nat) (v w : EV) (e : Env) : SR := match upOf e v, valOf e w, getP e i fs with
  | some y, some (.int z), some (.olst xs) => match L2.ixN xs.length z with
    | some j => .nx (setP e i fs (.olst (xs.set j y)))
    | none => .bad
  | some y, some k, some (.odic kvs) => if dKeyOk kvs k && decide (kvs.length < lim) then .nx (setP e i fs (.odic (dPut kvs k y))) else .bad
  | _, _, _ => .bad
def kRet (v : EV) (e : Env) : SR := match v with
  | .sl s => if live s then .rt s e else .bad
  | _ => .bad
def kRse (g : Gl) (c : Nat) (vs : List EV) (e : Env) : SR := match g.xat c, upsOf e vs with
  | some ns, some xs => if xs.length = ns.length then .exc ⟨c, ns.zip xs⟩ e else .bad
  | _, _ => .bad
def kAug (i : Nat) (p : P2) (v : PV) (w : EV) (e : Env) : SR := match valOf e w with
  | some y => match op2 p v y with
    | some (.val (.int z)) => .nx (e.set i (.val (.int z)))
    | _ => .bad
  | none => .bad
mutual
def noX : Slot → Bool
  | .exn _ _ => false
  | .own _ => false
  | .oins _ fs => noXF fs
  | _ => true
def noXF : List (Nat × Slot) → Bool
  | [] => true
  | (_, s) :: r => noX s && noXF r
end
def noXs (e : Env) : Bool := e.all noX
def triOk (g : Gl) (ns : List Nat) (x : Exn) (e : Env) : Bool := noXs e && (match ns with
  | [] => true
  | [i] => x.fs.isEmpty && decide (i < e.length)
  | _ => false)
def triIn : List Nat → Exn → Env → Env
  | [], _, e => e
  | i :: _, x, e => e.set i (.exn x.c x.fs)
def triOff : List Nat → Env → Env
  | [], e => e
  | i :: _, e => e.set i .dead
def triOut (ns : List Nat) : SR → SR
  | .nx e => if noXs (triOff ns e) then .nx (triOff ns e) else .bad
  | .bk e => if noXs (triOff ns e) then .bk (triOff ns e) else .bad
  | .ct e => if noXs (triOff ns e) then .ct (triOff ns e) else .bad
  | .rt s e => if noX s && noXs (triOff ns e) then .rt s (triOff ns e) else .bad
  | _ => .bad
def evS (g : Gl) : T → Env → SR
  | .nop, e => .nx e
  | .seq a b, e => match evS g a e with
    | .nx e' => evS g b e'
    | r => r
  | .asg tg x, e => SR.of (evE g x e) (kAsg tg)
  | .aug i p x, e => match e[i]? with
    | some (.val v) => SR.of (evE g x e) (kAug i p v)
    | _ => .bad
  | .fset i fs f x, e => SR.of (evE g x e) (kFset g i fs f)
  | .iset i fs k x, e => SR.of (evE g x e) fun v e => if fitsI (getP e i fs) then SR.of (evE g k e) (kIset i fs v) else .bad
  | .xpr x, e => SR.of (evE g x e) fun _ e => .nx e
  | .sif t a b, e => SR.of (evT g t e) fun k e => match k with
    | true => evS g a e
    | false => evS g b e
  | .whl t b, e => whlL (evT g t) (evS g b) g.wf e
  | .sfor tg it b, e => SR.of (evI g it e) fun vxs e => forL tg (fun e1 => sameAt e e1 vxs.1) (evS g b) vxs.2 e
  | .ret x, e => SR.of (evE g x e) kRet
  | .retN, e => .rt (.val .non) e
  | .rse c as, e => SR.of (evA g as e) (kRse g c)
  | .cnt, e => .ct e
  | .brk, e => .bk e
  | .tri c ns b su, e => match evS g b e with
    | .exc x e1 => if g.isx x.c then (if g.sub x.c c then (if triOk g ns x e1 then triOut ns (evS g su (triIn ns x e1)) else .bad) else .exc x e1) else .bad
    | r => r
  | _, _ => .bad
def noSto (i : Nat) : T → Bool
  | .seq a b => noSto i a && noSto i b
  | .asg tg _ => noSto i tg
  | .aug j _ _ => i != j
  | .tnm j => i != j
  | .ttp ts => noSto i ts
  | .cons a r => noSto i a && noSto i r
  | .sif _ a b => noSto i a && noSto i b
  | .whl _ b => noSto i b
  | .sfor tg _ b => noSto i tg && noSto i b
  | .tri _ ns b su => !ns.contains i && noSto i b && noSto i su
  | _ => true
structure FD where
  np : Nat
  ns : Nat
  body : T
def oldS : Slot → Slot
  | .val v => .val v
  | _ => .dead
def argsBack (b : T) (e : Env) : Nat → List Slot → List Slot
  | _, [] => []
  | i, s :: r => (if noSto i b then e.getD i .dead else oldS s) :: argsBack b e (i + 1) r
def runF (g : Gl) (d : FD) (as : List Slot) : CR :=
  if as.length = d.np then match evS g d.body (as ++ List.replicate (d.ns - d.np) .dead) with
    | .rt s e => .ok s (argsBack d.body e 0 as)
    | .nx e => .ok (.val .non) (argsBack d.body e 0 as)
    | .exc x e => .exc x (argsBack d.body e 0 as)
    | _ => .bad
  else .bad
structure Tab where
  fds : List FD
  ini : List (Nat × Nat)
  met : List (Nat × List (Nat × Nat))
  xat : List (Nat × List Nat)
  att : List (Nat × List Nat)
  wf : Nat
  sup : List (Nat × List Nat) := []
def Tab.at (t : Tab) (c f : Nat) : Bool := match t.att.lookup c with
  | some l => l.contains f
  | none => false
def Tab.gl (t : Tab) (sem : Nat → List Slot → CR) : Gl where
  sem := sem
  ini := fun c => t.ini.lookup c
  met := fun c m => match t.met.lookup c with
    | some ms => ms.lookup m
    | none => none
  xat := fun c => t.xat.lookup c
  att := t.at
  wf := t.wf
  sub := fun c d => match t.sup.lookup c with
    | some l => l.contains d
    | none => false
  isx := fun c => (t.sup.lookup c).isSome
def sem (t : Tab) : Nat → Nat → List Slot → CR
  | 0, _, _ => .bad
  | n + 1, f, as => match t.fds[f]? with
    | some d => runF (t.gl (sem t n)) d as
    | none => .bad
end RF
set_option maxHeartbeats 1000000
namespace RF
open PySem PySem.Spec PyProof.Rows L2 Evl
structure Gr where
  K : PySem.W.Frag
  cl : Nat → Addr
  an : Nat → Str
  att : Nat → Nat → Bool
  inj : ∀ n m, an n = an m → n = m
  w : World
  xa : Addr → Nat → Prop := fun _ _ => False
def pK : Key → PV
  | .inl i => .int i
  | .inr x => .str x
mutual
inductive Rep (G : Gr) (I : Hp) : V → PV → Prop
  | non : Rep G I .non .non
  | bl (b : Bool) : Rep G I (.bl b) (.bl b)
  | int (i : Int) : Rep G I (.int i) (.int i)
  | str (x : Str) : Rep G I (.str x) (.str x)
  | tup {a : Addr} {vs : List V} {xs : List PV} (h : SqT G.K I a vs) (r : RepL G I vs xs) : Rep G I (.ref a) (.tup xs)
  | lst {a : Addr} {vs : List V} {xs : List PV} (h : I a = some (.lst vs)) (r : RepL G I vs xs) : Rep G I (.ref a) (.lst xs)
  | xls {a : Addr} {vs : List V} {xs : List PV} (h : SqL G.K I a vs) (r : RepL G I vs xs) : Rep G I (.ref a) (.xls xs)
  | dic {a : Addr} {d : HO} {kvs : List (PV × PV)} (h : I a = some d) (r : RepK G I a d kvs) : Rep G I (.ref a) (.dic kvs)
  | ins {a dx : Addr} {c : Nat} {fs : List (Str × V)} {gs : List (Nat × PV)} (h : I a = some (.ins (G.cl c) dx fs)) (t : (gs.all fun p => G.att c p.1) = true) (r : RepF G I fs gs) : Rep G I (.ref a) (.ins c gs)
inductive RepL (G : Gr) (I : Hp) : List V → List PV → Prop
  | nil : RepL G I [] []
  | cons {v : V} {vs : List V} {x : PV} {xs : List PV} (h : Rep G I v x) (r : RepL G I vs xs) : RepL G I (v :: vs) (x :: xs)
inductive RepF (G : Gr) (I : Hp) : List (Str × V) → List (Nat × PV) → Prop
  | nil : RepF G I [] []
  | cons {n : Nat} {v : V} {x : PV} {fs : List (Str × V)} {gs : List (Nat × PV)} (h : Rep G I v x) (r : RepF G I fs gs) : RepF G I ((G.an n, v) :: fs) ((n, x) :: gs)
inductive RepK (G : Gr) (I : Hp) : Addr → HO → List (PV × PV) → Prop
  | nil {a : Addr} : RepK G I a (.dK []) []
  | cons {a : Addr} {k : Key} {v : V} {x : PV} {kvs : List (Key × V)} {gs : List (PV × PV)} (h : Rep G I v x) (r : RepK G I a (.dK kvs) gs) : RepK G I a (.dK ((k, v) :: kvs)) ((pK k, x) :: gs)
  | nest {a : Addr} {xs : List (NKey × Addr × Value)} {gs : List (PV × PV)} (ne : gs ≠ []) (r : RepN G I xs gs) : RepK G I a (dN G.w a xs) gs
inductive RepN (G : Gr) (I : Hp) : List (NKey × Addr × Value) → List (PV × PV) → Prop
  | nil : RepN G I [] []
  | cons {k : NKey} {b : Addr} {u : Value} {v : V} {p x : PV} {xs : List (NKey × Addr × Value)} {gs : List (PV × PV)} (hk : toD p = k.1) (hp : Rep G I (.ref b) p) (hv : RelV v u) (h : Rep G I v x) (r : RepN G I xs gs) : RepN G I ((k, b, u) :: xs) ((p, x) :: gs)
end
section
variable {G : Gr} {I I' : Hp}
theorem sqT_mono (e : Ex I I') {K : PySem.W.Frag} {a : Addr} {vs : List V} (h : SqT K I a vs) : SqT K I' a vs := ex_t e h
mutual
theorem Rep.mono (e : Ex I I') : ∀ {v : V} {p : PV}, Rep G I v p → Rep G I' v p
  | _, _, .non => .non
  | _, _, .bl b => .bl b
  | _, _, .int i => .int i
  | _, _, .str x => .str x
  | _, _, .tup h r => .tup (ex_t e h) (r.mono e)
  | _, _, .lst h r => .lst (e _ _ h) (r.mono e)
  | _, _, .xls h r => .xls (ex_l e h) (r.mono e)
  | _, _, .dic h r => .dic (e _ _ h) (r.mono e)
  | _, _, .ins h t r => .ins (e _ _ h) t (r.mono e)
theorem RepL.mono (e : Ex I I') : ∀ {v : List V} {p : List PV}, RepL G I v p → RepL G I' v p
  | _, _, .nil => .nil
  | _, _, .cons h r => .cons (h.mono e) (r.mono e)
theorem RepF.mono (e : Ex I I') : ∀ {v : List (Str × V)} {p : List (Nat × PV)}, RepF G I v p → RepF G I' v p
  | _, _, .nil => .nil
  | _, _, .cons h r => .cons (h.mono e) (r.mono e)
theorem RepK.mono (e : Ex I I') : ∀ {a : Addr} {v : HO} {p : List (PV × PV)}, RepK G I a v p → RepK G I' a v p
  | _, _, _, .nil => .nil
  | _, _, _, .cons h r => .cons (h.mono e) (r.mono e)
  | _, _, _, .nest ne r => .nest ne (r.mono e)
theorem RepN.mono (e : Ex I I') : ∀ {v : List (NKey × Addr × Value)} {p : List (PV × PV)}, RepN G I v p → RepN G I' v p
  | _, _, .nil => .nil
  | _, _, .cons hk hp hv h r => .cons hk (hp.mono e) hv (h.mono e) (r.mono e)
end
theorem RepL.length : ∀ {v : List V} {p : List PV}, RepL G I v p → v.length = p.length
  | _, _, .nil => rfl
  | _, _, .cons _ r => congrArg Nat.succ r.length
theorem RepL.get : ∀ {v : List V} {p : List PV} {i : Nat} {x : PV}, RepL G I v p → p[i]? = some x → ∃ u, v[i]? = some u ∧ Rep G I u x
  | _, _, _, _, .nil, e => by simp at e
  | _, _, 0, _, .cons h _, e => by simp at e; subst e; exact ⟨_, rfl, h⟩
  | _, _, i + 1, _, .cons _ r, e => by
    obtain ⟨u, h1, h2⟩ := r.get (i := i) (by simpa using e)
    exact ⟨u, by simpa using h1, h2⟩
theorem RepL.getV : ∀ {v : List V} {p : List PV} {i : Nat} {u : V}, RepL G I v p → v[i]? = some u → ∃ x, p[i]? = some x ∧ Rep G I u x
  | _, _, _, _, .nil, e => by simp at e
  | _, _, 0, _, .cons h _, e => by simp at e; subst e; exact ⟨_, rfl, h⟩
  | _, _, i + 1, _, .cons _ r, e => by
    obtain ⟨u, h1, h2⟩ := r.getV (i := i) (by simpa using e)
    exact ⟨u, by simpa using h1, h2⟩
theorem RepL.append : ∀ {v : List V} {p : List PV} {w : List V} {q : List PV}, RepL G I v p → RepL G I w q → RepL G I (v ++ w) (p ++ q)
  | _, _, _, _, .nil, s => s
  | _, _, _, _, .cons h r, s => .cons h (r.append s)
theorem RepL.snoc {v : List V} {p : List PV} {u : V} {x : PV} (r : RepL G I v p) (h : Rep G I u x) : RepL G I (v ++ [u]) (p ++ [x]) := r.append (.cons h .nil)
theorem RepL.take : ∀ {v : List V} {p : List PV} (n : Nat), RepL G I v p → RepL G I (v.take n) (p.take n)
  | _, _, 0, _ => .nil
  | _, _, _ + 1, .nil => .nil
  | _, _, n + 1, .cons h r => .cons h (r.take n)
theorem RepL.drop : ∀ {v : List V} {p : List PV} (n : Nat), RepL G I v p → RepL G I (v.drop n) (p.drop n)
  | _, _, 0, r => r
  | _, _, _ + 1, .nil => .nil
  | _, _, n + 1, .cons _ r => r.drop n
theorem RepL.set : ∀ {v : List V} {p : List PV} (n : Nat) {u : V} {x : PV}, RepL G I v p → Rep G I u x → RepL G I (v.set n u) (p.set n x)
  | _, _, _, _, _, .nil, _ => .nil
  | _, _, 0, _, _, .cons _ r, h => .cons h r
  | _, _, n + 1, _, _, .cons k r, h => .cons k (r.set n h)
theorem RepL.eraseIdx : ∀ {v : List V} {p : List PV} (n : Nat), RepL G I v p → RepL G I (v.eraseIdx n) (p.eraseIdx n)
  | _, _, _, .nil => .nil
  | _, _, 0, .cons _ r => r
  | _, _, n + 1, .cons k r => .cons k (r.eraseIdx n)
theorem RepL.reverse : ∀ {v : List V} {p : List PV}, RepL G I v p → RepL G I v.reverse p.reverse
  | _, _, .nil => .nil
  | _, _, .cons h r => by
    rw [List.reverse_cons, List.reverse_cons]
    exact r.reverse.append (.cons h .nil)
theorem RepL.dropLast {v : List V} {p : List PV} (r : RepL G I v p) : RepL G I v.dropLast p.dropLast := by
  rw [List.dropLast_eq_take, List.dropLast_eq_take, r.length]
  exact r.take _
theorem RepL.mem : ∀ {v : List V} {p : List PV} {u : V}, RepL G I v p → u ∈ v → ∃ x ∈ p, Rep G I u x
  | _, _, _, .nil, h => by cases h
  | _, _, _, .cons h r, e => by
    rcases List.mem_cons.mp e with rfl | e
    · exact ⟨_, List.mem_cons_self, h⟩
    · obtain ⟨x, hx, q⟩ := r.mem e
      exact ⟨x, List.mem_cons_of_mem _ hx, q⟩
mutual
theorem Rep.data : ∀ {v : V} {p : PV}, Rep G I v p → PyData.canLay0 (toD p) = true → Dp G.K I v (toD p)
  | _, _, .non, _ => .non
  | _, _, .bl b, _ => .bl b
  | _, _, .int i, _ => .int i
  | _, _, .str x, _ => .str x
  | _, _, .tup h r, q => .tup h (r.data (by simpa [toD, PyData.canLay0] using q))
  | _, _, .lst h r, q => .lst (.inl (.inl h)) (r.data (by simpa [toD, PyData.canLay0] using q))
  | _, _, .xls h r, q => by simp [toD, PyData.canLay0] at q
  | _, _, .dic h r, q => by simp [toD, PyData.canLay0] at q
  | _, _, .ins h t r, q => by simp [toD, PyData.canLay0] at q
theorem RepL.data : ∀ {vs : List V} {ps : List PV}, RepL G I vs ps → PyData.canLayAll0 (toDs ps) = true → DpAll G.K I vs (toDs ps)
  | _, _, .nil, _ => by rw [toDs]; exact .nil
  | _, _, .cons h r, q => by
    rw [toDs, PyData.canLayAll0, Bool.and_eq_true] at q
    rw [toDs]
    exact .cons (h.data q.1) (r.data q.2)
end
end
mutual
inductive SRep (G : Gr) (I H : Hp) : V → Slot → List Addr → Prop
  | val {v : V} {p : PV} (h : Rep G I v p) : SRep G I H v (.val p) []
  | dead {v : V} : SRep G I H v .dead []
  | exn {a : Addr} {c : Nat} {fs : List (Nat × PV)} (h : G.xa a c) : SRep G I H (.ref a) (.exn c fs) []
  | olst {a : Addr} {vs : List V} {xs : List PV} (h : H a = some (.lst vs)) (r : RepL G I vs xs) : SRep G I H (.ref a) (.olst xs) [a]
  | odic {a : Addr} {d : HO} {kvs : List (PV × PV)} (h : H a = some d) (r : RepK G I a d kvs) : SRep G I H (.ref a) (.odic kvs) [a]
  | oins {a dx : Addr} {c : Nat} {fs : List (Str × V)} {gs : List (Nat × Slot)} {F : List Addr} (h : H a = some (.ins (G.cl c) dx fs)) (t : (gs.all fun p => G.att c p.1) = true) (r : SRepF G I H fs gs F) : SRep G I H (.ref a) (.oins c gs) (a :: F)
  | own {a : Addr} {vs : List V} {ss : List Slot} {F : List Addr} (h : H a = some (.lst vs)) (r : SRepL G I H vs ss F) : SRep G I H (.ref a) (.own ss) (a :: F)
inductive SRepF (G : Gr) (I H : Hp) : List (Str × V) → List (Nat × Slot) → List Addr → Prop
  | nil : SRepF G I H [] [] []
  | cons {n : Nat} {v : V} {s : Slot} {fs : List (Str × V)} {gs : List (Nat × Slot)} {F1 F2 : List Addr} (h : SRep G I H v s F1) (r : SRepF G I H fs gs F2) : SRepF G I H ((G.an n, v) :: fs) ((n, s) :: gs) (F1 ++ F2)
inductive SRepL (G : Gr) (I H : Hp) : List V → List Slot → List Addr → Prop
  | nil : SRepL G I H [] [] []
  | cons {v : V} {s : Slot} {vs : List V} {ss : List Slot} {F1 F2 : List Addr} (h : SRep G I H v s F1) (r : SRepL G I H vs ss F2) : SRepL G I H (v :: vs) (s :: ss) (F1 ++ F2)
end
inductive EnvR (G : Gr) (I H : Hp) : L2.St → Env → List Addr → Prop
  | nil : EnvR G I H [] [] []
  | no {o : Option V} {σ : L2.St} {e : Env} {F : List Addr} (r : EnvR G I H σ e F) : EnvR G I H (o :: σ) (.dead :: e) F
  | hv {v : V} {s : Slot} {σ : L2.St} {e : Env} {F1 F2 : List Addr} (h : SRep G I H v s F1) (r : EnvR G I H σ e F2) : EnvR G I H (some v :: σ) (s :: e) (F1 ++ F2)
structure W (G : Gr) (I H : Hp) (σ : L2.St) (e : Env) (F : List Addr) : Prop where
  ex : Ex I H
  env : EnvR G I H σ e F
  nd : F.Nodup
  fr : ∀ a ∈ F, I a = none
structure Stp (nc : Bool) (I H : Hp) (F : List Addr) (I' H' : Hp) (F' : List Addr) : Prop where
  ex : Ex I I'
  old : ∀ a o, H a = some o → a ∉ F → H' a = some o ∧ I' a = I a
  dom : ∀ a o, H a = some o → ∃ o', H' a = some o'
  own : ∀ a ∈ F', a ∈ F ∨ H a = none
  keep : nc = true → Ex H H'
section
variable {G : Gr} {I I' I'' H H' H'' : Hp} {F F' F'' : List Addr} {σ σ' : L2.St} {e e' : Env} {v u : V} {s t : Slot}
theorem Stp.refl (nc : Bool) : Stp nc I H F I H F := ⟨Ex.refl _, fun a o h _ => ⟨h, rfl⟩, fun a o h => ⟨o, h⟩, fun a h => .inl h, fun _ => Ex.refl _⟩
theorem Stp.trans {n m : Bool} (a : Stp n I H F I' H' F') (b : Stp m I' H' F' I'' H'' F'') : Stp (n && m) I H F I'' H'' F'' where
  ex := a.ex.trans b.ex
  old := fun x o h hf => by
    obtain ⟨h1, h2⟩ := a.old x o h hf
    obtain ⟨h3, h4⟩ := b.old x o h1 fun hm => (a.own x hm).elim hf fun z => by rw [h] at z; cases z
    exact ⟨h3, h4.trans h2⟩
  dom := fun x o h => by
    obtain ⟨o', h'⟩ := a.dom x o h
    exact b.dom x o' h'
  own := fun x h => by
    rcases b.own x h with h | h
    · exact a.own x h
    · cases q : H x with
      | none => exact .inr rfl
      | some o =>
        obtain ⟨o', h'⟩ := a.dom x o q
        rw [h] at h'; cases h'
  keep := fun h => by
    rw [Bool.and_eq_true] at h
    exact (a.keep h.1).trans (b.keep h.2)
theorem Stp.weak {n m : Bool} (a : Stp n I H F I' H' F') (h : m = true → n = true) (hF : ∀ x ∈ F'', x ∈ F') : Stp m I H F I' H' F'' :=
  ⟨a.ex, a.old, a.dom, fun x hx => a.own x (hF x hx), fun q => a.keep (h q)⟩
mutual
theorem SRep.step (e : Ex I I') : ∀ {v : V} {s : Slot} {F : List Addr}, SRep G I H v s F → (∀ a ∈ F, H' a = H a) → SRep G I' H' v s F
  | _, _, _, .val h, _ => .val (h.mono e)
  | _, _, _, .dead, _ => .dead
  | _, _, _, .exn h, _ => .exn h
  | _, _, _, .olst h r, k => .olst ((k _ List.mem_cons_self).trans h) (r.mono e)
  | _, _, _, .odic h r, k => .odic ((k _ List.mem_cons_self).trans h) (r.mono e)
  | _, _, _, .oins h t r, k => .oins ((k _ List.mem_cons_self).trans h) t (r.step e fun a ha => k a (List.mem_cons_of_mem _ ha))
  | _, _, _, .own h r, k => .own ((k _ List.mem_cons_self).trans h) (r.step e fun a ha => k a (List.mem_cons_of_mem _ ha))
theorem SRepF.step (e : Ex I I') : ∀ {v : List (Str × V)} {s : List (Nat × Slot)} {F : List Addr}, SRepF G I H v s F → (∀ a ∈ F, H' a = H a) → SRepF G I' H' v s F
  | _, _, _, .nil, _ => .nil
  | _, _, _, .cons h r, k => .cons (h.step e fun a ha => k a (List.mem_append_left _ ha)) (r.step e fun a ha => k a (List.mem_append_right _ ha))
theorem SRepL.step (e : Ex I I') : ∀ {v : List V} {s : List Slot} {F : List Addr}, SRepL G I H v s F → (∀ a ∈ F, H' a = H a) → SRepL G I' H' v s F
  | _, _, _, .nil, _ => .nil
  | _, _, _, .cons h r, k => .cons (h.step e fun a ha => k a (List.mem_append_left _ ha)) (r.step e fun a ha => k a (List.mem_append_right _ ha))
end
theorem EnvR.step (q : Ex I I') : ∀ {σ : L2.St} {e : Env} {F : List Addr}, EnvR G I H σ e F → (∀ a ∈ F, H' a = H a) → EnvR G I' H' σ e F
  | _, _, _, .nil, _ => .nil
  | _, _, _, .no r, k => .no (r.step q k)
  | _, _, _, .hv h r, k => .hv (h.step q fun a ha => k a (List.mem_append_left _ ha)) (r.step q fun a ha => k a (List.mem_append_right _ ha))
theorem EnvR.len : ∀ {σ : L2.St} {e : Env} {F : List Addr}, EnvR G I H σ e F → σ.length = e.length
  | _, _, _, .nil => rfl
  | _, _, _, .no r => congrArg Nat.succ r.len
  | _, _, _, .hv _ r => congrArg Nat.succ r.len
mutual
theorem SRep.there : ∀ {v : V} {s : Slot} {F : List Addr}, SRep G I H v s F → ∀ a ∈ F, ∃ o, H a = some o
  | _, _, _, .val _, _, h => by cases h
  | _, _, _, .dead, _, h => by cases h
  | _, _, _, .exn _, _, h => by cases h
  | _, _, _, .olst h _, a, m => by rw [List.mem_singleton.mp m]; exact ⟨_, h⟩
  | _, _, _, .odic h _, a, m => by rw [List.mem_singleton.mp m]; exact ⟨_, h⟩
  | _, _, _, .oins h _ r, a, m => by
    rcases List.mem_cons.mp m with q | q
    · rw [q]; exact ⟨_, h⟩
    · exact r.there a q
  | _, _, _, .own h r, a, m => by
    rcases List.mem_cons.mp m with q | q
    · rw [q]; exact ⟨_, h⟩
    · exact r.there a q
theorem SRepF.there : ∀ {v : List (Str × V)} {s : List (Nat × Slot)} {F : List Addr}, SRepF G I H v s F → ∀ a ∈ F, ∃ o, H a = some o
  | _, _, _, .nil, _, h => by cases h
  | _, _, _, .cons h r, a, m => (List.mem_append.mp m).elim (h.there a) (r.there a)
theorem SRepL.there : ∀ {v : List V} {s : List Slot} {F : List Addr}, SRepL G I H v s F → ∀ a ∈ F, ∃ o, H a = some o
  | _, _, _, .nil, _, h => by cases h
  | _, _, _, .cons h r, a, m => (List.mem_append.mp m).elim (h.there a) (r.there a)
end
theorem EnvR.there : ∀ {σ : L2.St} {e : Env} {F : List Addr}, EnvR G I H σ e F → ∀ a ∈ F, ∃ o, H a = some o
  | _, _, _, .nil, _, h => by cases h
  | _, _, _, .no r, a, h => r.there a h
  | _, _, _, .hv h r, a, m => (List.mem_append.mp m).elim (h.there a) (r.there a)
theorem EnvR.at : ∀ {σ : L2.St} {e : Env} {F : List Addr} {i : Nat} {s : Slot}, EnvR G I H σ e F → e[i]? = some s → s ≠ .dead →
    ∃ v F1 Fi F2, σ[i]? = some (some v) ∧ SRep G I H v s Fi ∧ F = F1 ++ Fi ++ F2 ∧
      ∀ (I' H' : Hp) (v' : V) (s' : Slot) (Fi' : List Addr), Ex I I' → (∀ a ∈ F1 ++ F2, H' a = H a) → SRep G I' H' v' s' Fi' → EnvR G I' H' (σ.set i (some v')) (e.set i s') (F1 ++ Fi' ++ F2)
  | _, _, _, i, _, .nil, h, _ => by simp at h
  | _, _, _, 0, s, .no r, h, n => by
    simp at h
    exact absurd h.symm n
  | _, _, _, i + 1, s, .no r, h, n => by
    obtain ⟨v, F1, Fi, F2, h1, h2, h3, h4⟩ := r.at (i := i) (by simpa using h) n
    exact ⟨v, F1, Fi, F2, by simpa using h1, h2, h3, fun I' H' v' s' Fi' a b c => .no (h4 I' H' v' s' Fi' a b c)⟩
  | _, _, _, 0, s, @EnvR.hv _ _ _ v s0 σ e F1 F2 q r, h, n => by
    simp at h
    subst h
    exact ⟨v, [], F1, F2, by simp, q, by simp, fun I' H' v' s' Fi' a b c => by simpa using EnvR.hv c (r.step a (by simpa using b))⟩
  | _, _, _, i + 1, s, @EnvR.hv _ _ _ v s0 σ e G1 G2 q r, h, n => by
    obtain ⟨w, F1, Fi, F2, h1, h2, h3, h4⟩ := r.at (i := i) (by simpa using h) n
    refine ⟨w, G1 ++ F1, Fi, F2, by simpa using h1, h2, by rw [h3]; simp [List.append_assoc], fun I' H' v' s' Fi' a b c => ?_⟩
    have z := h4 I' H' v' s' Fi' a (fun x hx => b x (by rw [List.append_assoc]; exact List.mem_append_right _ hx)) c
    have y := EnvR.hv (q.step a fun x hx => b x (by rw [List.append_assoc]; exact List.mem_append_left _ hx)) z
    simpa [List.append_assoc] using y
theorem EnvR.set : ∀ {σ : L2.St} {e : Env} {F : List Addr} (i : Nat) {v : V} {s : Slot} {Fs : List Addr}, EnvR G I H σ e F → SRep G I H v s Fs →
    ∃ F', EnvR G I H (σ.set i (some v)) (e.set i s) F' ∧ ∃ F0, F0.Sublist F ∧ (F' = F0 ∨ ∃ A B, F0 = A ++ B ∧ F' = A ++ Fs ++ B)
  | _, _, _, _, _, _, _, .nil, _ => ⟨[], .nil, [], List.Sublist.refl _, .inl rfl⟩
  | _, _, _, 0, _, _, Fs, @EnvR.no _ _ _ _ _ _ F r, h => ⟨_, .hv h r, F, List.Sublist.refl _, .inr ⟨[], F, rfl, rfl⟩⟩
  | _, _, _, i + 1, _, _, Fs, .no r, h => by
    obtain ⟨F', h1, F0, h2, h3⟩ := r.set i h
    exact ⟨F', .no h1, F0, h2, h3⟩
  | _, _, _, 0, _, _, Fs, @EnvR.hv _ _ _ _ _ _ _ F1 F2 q r, h => ⟨_, .hv h r, F2, List.sublist_append_right _ _, .inr ⟨[], F2, rfl, rfl⟩⟩
  | _, _, _, i + 1, _, _, Fs, @EnvR.hv _ _ _ _ _ _ _ F1 F2 q r, h => by
    obtain ⟨F', h1, F0, h2, h3⟩ := r.set i h
    refine ⟨_, .hv q h1, F1 ++ F0, List.Sublist.append (List.Sublist.refl _) h2, ?_⟩
    rcases h3 with h3 | ⟨A, B, h3, h4⟩
    · exact .inl (by rw [h3])
    · exact .inr ⟨F1 ++ A, B, by rw [h3]; simp [List.append_assoc], by rw [h4]; simp [List.append_assoc]⟩
end
def mergeI (I H : Hp) (F : List Addr) : Hp := fun a => if a ∈ F then H a else I a
section
variable {G : Gr} {I I' H H' : Hp} {F : List Addr}
theorem merge_ex (fr : ∀ a ∈ F, I a = none) : Ex I (mergeI I H F) := fun a o h => by
  unfold mergeI
  rw [if_neg fun m => by rw [fr a m] at h; cases h]
  exact h
theorem merge_in (ex : Ex I H) : Ex (mergeI I H F) H := fun a o h => by
  unfold mergeI at h
  split at h
  · exact h
  · exact ex a o h
theorem merge_out {a : Addr} (h : a ∉ F) : mergeI I H F a = I a := by unfold mergeI; rw [if_neg h]
theorem merge_at {a : Addr} (h : a ∈ F) : mergeI I H F a = H a := by unfold mergeI; rw [if_pos h]
theorem att_frz : ∀ {gs : List (Nat × Slot)} {c : Nat}, (gs.all fun p => G.att c p.1) = true → ((frzF gs).all fun p => G.att c p.1) = true
  | [], _, _ => rfl
  | (n, s) :: r, c, h => by
    rw [List.all_cons, Bool.and_eq_true] at h
    rw [frzF, List.all_cons, Bool.and_eq_true]
    exact ⟨h.1, att_frz h.2⟩
mutual
theorem SRep.frozen (e : Ex I I') : ∀ {v : V} {s : Slot} {F : List Addr}, SRep G I H v s F → live s = true → (∀ a ∈ F, I' a = H a) → Rep G I' v (frz s)
  | _, _, _, .val h, _, _ => by rw [frz]; exact h.mono e
  | _, _, _, .dead, l, _ => by rw [live] at l; cases l
  | _, _, _, .exn _, l, _ => by rw [live] at l; cases l
  | _, _, _, .own _ _, l, _ => by rw [live] at l; cases l
  | _, _, _, .olst h r, _, k => by rw [frz]; exact .lst ((k _ List.mem_cons_self).trans h) (r.mono e)
  | _, _, _, .odic h r, _, k => by rw [frz]; exact .dic ((k _ List.mem_cons_self).trans h) (r.mono e)
  | _, _, _, .oins h t r, l, k => by
    rw [frz]
    rw [live] at l
    exact .ins ((k _ List.mem_cons_self).trans h) (att_frz t) (r.frozen e l fun a ha => k a (List.mem_cons_of_mem _ ha))
theorem SRepF.frozen (e : Ex I I') : ∀ {v : List (Str × V)} {s : List (Nat × Slot)} {F : List Addr}, SRepF G I H v s F → liveF s = true → (∀ a ∈ F, I' a = H a) → RepF G I' v (frzF s)
  | _, _, _, .nil, _, _ => by rw [frzF]; exact .nil
  | _, _, _, .cons h r, l, k => by
    rw [frzF]
    rw [liveF, Bool.and_eq_true] at l
    exact .cons (h.frozen e l.1 fun a ha => k a (List.mem_append_left _ ha)) (r.frozen e l.2 fun a ha => k a (List.mem_append_right _ ha))
end
theorem SRep.freeze {v : V} {s : Slot} (h : SRep G I H v s F) (l : live s = true) (fr : ∀ a ∈ F, I a = none) : Rep G (mergeI I H F) v (frz s) :=
  h.frozen (merge_ex fr) l fun _ ha => merge_at ha
mutual
theorem SRep.now (e : Ex I H) : ∀ {v : V} {s : Slot} {F : List Addr}, SRep G I H v s F → live s = true → Rep G H v (frz s)
  | _, _, _, h, l => h.frozen e l fun _ _ => rfl
end
inductive PathS (G : Gr) (H : Hp) : V → List Nat → V → Prop
  | nil {v : V} : PathS G H v [] v
  | cons {a dx : Addr} {c f : Nat} {fs : List (Str × V)} {w u : V} {r : List Nat} (h : H a = some (.ins (G.cl c) dx fs)) (t : G.att c f = true) (l : fs.lookup (G.an f) = some w) (p : PathS G H w r u) : PathS G H (.ref a) (f :: r) u
  | ix {a : Addr} {f : Nat} {vs : List V} {w u : V} {r : List Nat} (h : H a = some (.lst vs)) (hb : ixB ≤ f) (l : vs[f - ixB]? = some w) (p : PathS G H w r u) : PathS G H (.ref a) (f :: r) u
def PathV (G : Gr) (H : Hp) (σ : L2.St) (i : Nat) (fs : List Nat) (u : V) : Prop := ∃ v, σ[i]? = some (some v) ∧ PathS G H v fs u
theorem PathS.mono (e : Ex H H') : ∀ {v : V} {fs : List Nat} {u : V}, PathS G H v fs u → PathS G H' v fs u
  | _, _, _, .nil => .nil
  | _, _, _, .cons h t l p => .cons (e _ _ h) t l (p.mono e)
  | _, _, _, .ix h hb l p => .ix (e _ _ h) hb l (p.mono e)
theorem an_ne {n m : Nat} (h : n ≠ m) : (G.an m == G.an n) = false := beq_eq_false_iff_ne.mpr fun q => h (G.inj _ _ q).symm
theorem RepF.look : ∀ {fs : List (Str × V)} {gs : List (Nat × PV)} {f : Nat} {p : PV}, RepF G I fs gs → fldV f gs = some p → ∃ w, fs.lookup (G.an f) = some w ∧ Rep G I w p
  | _, _, _, _, .nil, h => by cases h
  | _, _, f, p, @RepF.cons _ _ n v x fs gs q r, h => by
    rw [fldV] at h
    by_cases e : n = f
    · rw [if_pos e] at h; cases h; subst e
      exact ⟨v, by rw [List.lookup_cons]; simp, q⟩
    · rw [if_neg e] at h
      obtain ⟨w, h1, h2⟩ := r.look h
      exact ⟨w, by rw [List.lookup_cons, an_ne e]; exact h1, h2⟩
theorem SRepF.look : ∀ {fs : List (Str × V)} {gs : List (Nat × Slot)} {F : List Addr} {f : Nat} {s : Slot}, SRepF G I H fs gs F → fldS f gs = some s →
    ∃ w A Ft B, fs.lookup (G.an f) = some w ∧ SRep G I H w s Ft ∧ F = A ++ Ft ++ B ∧
      ∀ (I' H' : Hp) (s' : Slot) (Ft' : List Addr), Ex I I' → (∀ a ∈ A ++ B, H' a = H a) → SRep G I' H' w s' Ft' → SRepF G I' H' fs (setF f s' gs) (A ++ Ft' ++ B)
  | _, _, _, _, _, .nil, h => by cases h
  | _, _, _, f, p, @SRepF.cons _ _ _ n v x fs gs F1 F2 q r, h => by
    rw [fldS] at h
    by_cases e : n = f
    · rw [if_pos e] at h; cases h; subst e
      refine ⟨v, [], F1, F2, by rw [List.lookup_cons]; simp, q, by simp, fun I' H' s' Ft' a b c => ?_⟩
      rw [setF, if_pos rfl]
      exact .cons c (r.step a (by simpa using b))
    · rw [if_neg e] at h
      obtain ⟨w, A, Ft, B, h1, h2, h3, h4⟩ := r.look h
      refine ⟨w, F1 ++ A, Ft, B, by rw [List.lookup_cons, an_ne e]; exact h1, h2, by rw [h3]; simp [List.append_assoc], fun I' H' s' Ft' a b c => ?_⟩
      rw [setF, if_neg e]
      have z := h4 I' H' s' Ft' a (fun y hy => b y (by rw [List.append_assoc]; exact List.mem_append_right _ hy)) c
      have y := SRepF.cons (n := n) (q.step a fun y hy => b y (by rw [List.append_assoc]; exact List.mem_append_left _ hy)) z
      simpa [List.append_assoc] using y
theorem SRepL.look : ∀ {vs : List V} {ss : List Slot} {F : List Addr} {j : Nat} {s : Slot}, SRepL G I H vs ss F → ss[j]? = some s →
    ∃ w A Ft B, vs[j]? = some w ∧ SRep G I H w s Ft ∧ F = A ++ Ft ++ B ∧
      ∀ (I' H' : Hp) (s' : Slot) (Ft' : List Addr), Ex I I' → (∀ a ∈ A ++ B, H' a = H a) → SRep G I' H' w s' Ft' → SRepL G I' H' vs (ss.set j s') (A ++ Ft' ++ B)
  | _, _, _, _, _, .nil, h => by simp at h
  | _, _, _, 0, p, @SRepL.cons _ _ _ v x fs gs F1 F2 q r, h => by
    simp at h
    subst h
    exact ⟨v, [], F1, F2, by simp, q, by simp, fun I' H' s' Ft' a b c => by simpa using SRepL.cons c (r.step a (by simpa using b))⟩
  | _, _, _, j + 1, p, @SRepL.cons _ _ _ v x fs gs F1 F2 q r, h => by
    obtain ⟨w, A, Ft, B, h1, h2, h3, h4⟩ := r.look (j := j) (by simpa using h)
    refine ⟨w, F1 ++ A, Ft, B, by simpa using h1, h2, by rw [h3]; simp [List.append_assoc], fun I' H' s' Ft' a b c => ?_⟩
    have z := h4 I' H' s' Ft' a (fun y hy => b y (by rw [List.append_assoc]; exact List.mem_append_right _ hy)) c
    have y := SRepL.cons (q.step a fun y hy => b y (by rw [List.append_assoc]; exact List.mem_append_left _ hy)) z
    simpa [List.append_assoc] using y
theorem RepF.att : ∀ {fs : List (Str × V)} {gs : List (Nat × PV)} {c f : Nat} {p : PV}, RepF G I fs gs → fldV f gs = some p → (gs.all fun p => G.att c p.1) = true → G.att c f = true
  | _, _, _, _, _, .nil, h, _ => by cases h
  | _, _, c, f, p, @RepF.cons _ _ n v x fs gs q r, h, t => by
    rw [List.all_cons, Bool.and_eq_true] at t
    rw [fldV] at h
    by_cases e : n = f
    · rw [← e]; exact t.1
    · rw [if_neg e] at h; exact r.att h t.2
theorem SRepF.att : ∀ {fs : List (Str × V)} {gs : List (Nat × Slot)} {F : List Addr} {c f : Nat} {p : Slot}, SRepF G I H fs gs F → fldS f gs = some p → (gs.all fun p => G.att c p.1) = true → G.att c f = true
  | _, _, _, _, _, _, .nil, h, _ => by cases h
  | _, _, _, c, f, p, @SRepF.cons _ _ _ n v x fs gs F1 F2 q r, h, t => by
    rw [List.all_cons, Bool.and_eq_true] at t
    rw [fldS] at h
    by_cases e : n = f
    · rw [← e]; exact t.1
    · rw [if_neg e] at h; exact r.att h t.2
theorem setF_keys (f : Nat) (s : Slot) : ∀ gs : List (Nat × Slot), (setF f s gs).map (·.1) = gs.map (·.1)
  | [] => rfl
  | (n, x) :: r => by
    rw [setF]
    split
    · rfl
    · rw [List.map_cons, List.map_cons, setF_keys f s r]
theorem all_keys {p : Nat → Bool} {α : Type} (gs : List (Nat × α)) : (gs.all fun q => p q.1) = (gs.map (·.1)).all p := by rw [List.all_map]; rfl
theorem att_setF {c f : Nat} {s : Slot} {gs : List (Nat × Slot)} (h : (gs.all fun p => G.att c p.1) = true) : ((setF f s gs).all fun p => G.att c p.1) = true := by
  rw [all_keys, setF_keys, ← all_keys]
  exact h
theorem SRep.path (e : Ex I H) : ∀ {fs : List Nat} {v : V} {s t : Slot} {F : List Addr}, SRep G I H v s F → getS s fs = some t → ∃ u A Ft B, PathS G H v fs u ∧ SRep G I H u t Ft ∧ F = A ++ Ft ++ B
  | [], v, s, t, F, h, q => by
    have q' : s = t := by cases s <;> exact Option.some.inj q
    subst q'
    exact ⟨v, [], F, [], .nil, h, by simp⟩
  | f :: r, v, s, t, F, h, q => by
    cases h with
    | dead => cases q
    | exn _ => cases q
    | olst _ _ => cases q
    | odic _ _ => cases q
    | @own a vs ss F' h0 hr =>
      rw [getS] at q
      by_cases hb : ixB ≤ f
      · rw [if_pos hb] at q
        cases z : ss[f - ixB]? with
        | none => rw [z] at q; cases q
        | some s' =>
          rw [z] at q
          obtain ⟨w, A, Fw, B, l, hw, hF, _⟩ := hr.look z
          obtain ⟨u, A2, Ft, B2, p, hu, hF2⟩ := hw.path e (show getS s' r = some t from q)
          exact ⟨u, a :: (A ++ A2), Ft, B2 ++ B, .ix h0 hb l p, hu, by rw [hF, hF2]; simp [List.append_assoc]⟩
      · rw [if_neg hb] at q; cases q
    | @oins a dx c fs gs F' h0 ha hr =>
      rw [getS] at q
      cases z : fldS f gs with
      | none => rw [z] at q; cases q
      | some s' =>
        rw [z] at q
        obtain ⟨w, A, Fw, B, l, hw, hF, _⟩ := hr.look z
        obtain ⟨u, A2, Ft, B2, p, hu, hF2⟩ := hw.path e (show getS s' r = some t from q)
        exact ⟨u, a :: (A ++ A2), Ft, B2 ++ B, .cons h0 (hr.att z ha) l p, hu, by rw [hF, hF2]; simp [List.append_assoc]⟩
    | @val _ p hv =>
      cases hv with
      | @ins a dx c fs gs h0 ha hr =>
        rw [getS] at q
        cases z : fldV f gs with
        | none => rw [z] at q; cases q
        | some p' =>
          rw [z] at q
          obtain ⟨w, l, hw⟩ := hr.look z
          obtain ⟨u, A2, Ft, B2, p, hu, hF2⟩ := (SRep.val hw : SRep G I H w (.val p') []).path e (show getS (.val p') r = some t from q)
          have n : Ft = [] := by
            have := congrArg List.length hF2
            simp at this
            exact List.eq_nil_of_length_eq_zero (by omega)
          subst n
          exact ⟨u, [], [], [], .cons (e _ _ h0) (hr.att z ha) l p, hu, rfl⟩
      | _ => cases q
def ownedS : Slot → List Nat → Bool
  | _, [] => true
  | .oins _ gs, f :: r => match fldS f gs with
    | some s => ownedS s r
    | none => false
  | .own ss, f :: r => if ixB ≤ f then match ss[f - ixB]? with
      | some s => ownedS s r
      | none => false
    else false
  | _, _ :: _ => false
theorem owned_way : ∀ {fs : List Nat} {s t : Slot}, getS s fs = some t → owned t = true → ownedS s fs = true
  | [], s, _, _, _ => by cases s <;> rfl
  | f :: r, .oins c gs, t, h, o => by
    rw [getS] at h
    rw [ownedS]
    cases z : fldS f gs with
    | none => rw [z] at h; cases h
    | some s' => rw [z] at h; exact owned_way h o
  | f :: r, .val (.ins c gs), t, h, o => by
    have go : ∀ (r : List Nat) (p : PV) (t : Slot), getS (.val p) r = some t → owned t = false := fun r => by
      induction r with
      | nil => intro p t h; cases (show some (Slot.val p) = some t from h); rfl
      | cons f r ih =>
        intro p t h
        cases p with
        | ins c gs =>
          rw [getS] at h
          cases z : fldV f gs with
          | none => rw [z] at h; cases h
          | some p' => rw [z] at h; exact ih p' t h
        | _ => cases h
    rw [go _ _ _ h] at o
    cases o
  | f :: r, .own ss, t, h, o => by
    rw [getS] at h
    rw [ownedS]
    by_cases hb : ixB ≤ f
    · rw [if_pos hb] at h ⊢
      cases z : ss[f - ixB]? with
      | none => rw [z] at h; cases h
      | some s' => rw [z] at h; exact owned_way h o
    · rw [if_neg hb] at h; cases h
  | f :: r, .dead, t, h, _ => by cases h
  | f :: r, .exn _ _, t, h, _ => by cases h
  | f :: r, .olst _, t, h, _ => by cases h
  | f :: r, .odic _, t, h, _ => by cases h
  | f :: r, .val .non, t, h, _ => by cases h
  | f :: r, .val (.bl _), t, h, _ => by cases h
  | f :: r, .val (.int _), t, h, _ => by cases h
  | f :: r, .val (.str _), t, h, _ => by cases h
  | f :: r, .val (.tup _), t, h, _ => by cases h
  | f :: r, .val (.lst _), t, h, _ => by cases h
  | f :: r, .val (.xls _), t, h, _ => by cases h
  | f :: r, .val (.dic _), t, h, _ => by cases h
theorem SRep.put : ∀ {fs : List Nat} {v : V} {s t : Slot} {F : List Addr}, SRep G I H v s F → getS s fs = some t → ownedS s fs = true →
    ∃ u A Ft B, PathS G H v fs u ∧ SRep G I H u t Ft ∧ F = A ++ Ft ++ B ∧
      ∀ (I' H' : Hp) (t' : Slot) (Ft' : List Addr), Ex I I' → (∀ a ∈ A ++ B, H' a = H a) → SRep G I' H' u t' Ft' → SRep G I' H' v (setS s fs t') (A ++ Ft' ++ B)
  | [], v, s, t, F, h, q, _ => by
    have q' : s = t := by cases s <;> exact Option.some.inj q
    subst q'
    refine ⟨v, [], F, [], .nil, h, by simp, fun I' H' t' Ft' a b c => ?_⟩
    have e : setS s [] t' = t' := by cases s <;> rfl
    rw [e]
    simpa using c
  | f :: r, v, s, t, F, h, q, o => by
    cases h with
    | dead => cases q
    | exn _ => cases q
    | olst _ _ => cases q
    | odic _ _ => cases q
    | @own a vs ss F' h0 hr =>
      rw [getS] at q
      rw [ownedS] at o
      by_cases hb : ixB ≤ f
      · rw [if_pos hb] at q o
        cases z : ss[f - ixB]? with
        | none => rw [z] at q; cases q
        | some s' =>
          rw [z] at q o
          obtain ⟨w, A, Fw, B, l, hw, hF, hset⟩ := hr.look z
          obtain ⟨u, A2, Ft, B2, p, hu, hF2, hput⟩ := hw.put (show getS s' r = some t from q) o
          refine ⟨u, a :: (A ++ A2), Ft, B2 ++ B, .ix h0 hb l p, hu, by rw [hF, hF2]; simp [List.append_assoc], fun I' H' t' Ft' x y k => ?_⟩
          rw [setS, z]
          have y' : ∀ b ∈ A ++ A2 ++ (B2 ++ B), H' b = H b := fun b hb => y b (by simp only [List.cons_append]; exact List.mem_cons_of_mem _ hb)
          have k1 := hput I' H' t' Ft' x (fun b hb => y' b (by
            rcases List.mem_append.mp hb with q | q
            · exact List.mem_append_left _ (List.mem_append_right _ q)
            · exact List.mem_append_right _ (List.mem_append_left _ q))) k
          have k2 := hset I' H' _ _ x (fun b hb => y' b (by
            rcases List.mem_append.mp hb with q | q
            · exact List.mem_append_left _ (List.mem_append_left _ q)
            · exact List.mem_append_right _ (List.mem_append_right _ q))) k1
          have k3 := SRep.own ((y a (by simp)).trans h0) k2
          simpa [List.append_assoc] using k3
      · rw [if_neg hb] at q; cases q
    | val _ => cases o
    | @oins a dx c fs gs F' h0 ha hr =>
      rw [getS] at q
      rw [ownedS] at o
      cases z : fldS f gs with
      | none => rw [z] at q; cases q
      | some s' =>
        rw [z] at q o
        obtain ⟨w, A, Fw, B, l, hw, hF, hset⟩ := hr.look z
        obtain ⟨u, A2, Ft, B2, p, hu, hF2, hput⟩ := hw.put (show getS s' r = some t from q) o
        refine ⟨u, a :: (A ++ A2), Ft, B2 ++ B, .cons h0 (hr.att z ha) l p, hu, by rw [hF, hF2]; simp [List.append_assoc], fun I' H' t' Ft' x y k => ?_⟩
        rw [setS, z]
        have y' : ∀ b ∈ A ++ A2 ++ (B2 ++ B), H' b = H b := fun b hb => y b (by simp only [List.cons_append]; exact List.mem_cons_of_mem _ hb)
        have k1 := hput I' H' t' Ft' x (fun b hb => y' b (by
          rcases List.mem_append.mp hb with q | q
          · exact List.mem_append_left _ (List.mem_append_right _ q)
          · exact List.mem_append_right _ (List.mem_append_left _ q))) k
        have k2 := hset I' H' _ _ x (fun b hb => y' b (by
          rcases List.mem_append.mp hb with q | q
          · exact List.mem_append_left _ (List.mem_append_left _ q)
          · exact List.mem_append_right _ (List.mem_append_right _ q))) k1
        have k3 := SRep.oins ((y a (by simp)).trans h0) (att_setF ha) k2
        simpa [List.append_assoc] using k3
end
section
variable {G : Gr} {I H : Hp} {F : List Addr} {σ : L2.St} {e : Env}
theorem set_same {α : Type} : ∀ {l : List α} {i : Nat} {x : α}, l[i]? = some x → l.set i x = l
  | [], _, _, h => by simp at h
  | y :: l, 0, x, h => by simp at h; subst h; rfl
  | y :: l, i + 1, x, h => by rw [List.set_cons_succ, set_same (by simpa using h)]
theorem getP_some {i : Nat} {fs : List Nat} {t : Slot} (h : getP e i fs = some t) : ∃ s, e[i]? = some s ∧ getS s fs = some t := by
  unfold getP at h
  cases q : e[i]? with
  | none => rw [q] at h; cases h
  | some s => rw [q] at h; exact ⟨s, rfl, h⟩
theorem dead_way {fs : List Nat} {t : Slot} (h : getS .dead fs = some t) : t = .dead := by
  cases fs with
  | nil => exact (Option.some.inj h).symm
  | cons _ _ => cases h
theorem W.get (w : W G I H σ e F) {i : Nat} {fs : List Nat} {t : Slot} (h : getP e i fs = some t) (n : t ≠ .dead) : ∃ u A Ft B, PathV G H σ i fs u ∧ SRep G I H u t Ft ∧ F = A ++ Ft ++ B := by
  obtain ⟨s, h1, h2⟩ := getP_some h
  have ns : s ≠ .dead := fun q => by subst q; exact n (dead_way h2)
  obtain ⟨v, F1, Fi, F2, hv, hs, hF, _⟩ := w.env.at h1 ns
  obtain ⟨u, A, Ft, B, p, hu, hF2⟩ := hs.path w.ex h2
  exact ⟨u, F1 ++ A, Ft, B ++ F2, ⟨v, hv, p⟩, hu, by rw [hF, hF2]; simp [List.append_assoc]⟩
theorem W.put (w : W G I H σ e F) {i : Nat} {fs : List Nat} {t : Slot} (h : getP e i fs = some t) (n : t ≠ .dead) (o : owned t = true) :
    ∃ u A Ft B, PathV G H σ i fs u ∧ SRep G I H u t Ft ∧ F = A ++ Ft ++ B ∧
      ∀ (I' H' : Hp) (t' : Slot) (Ft' : List Addr), Ex I I' → (∀ a ∈ A ++ B, H' a = H a) → SRep G I' H' u t' Ft' → EnvR G I' H' σ (setP e i fs t') (A ++ Ft' ++ B) := by
  obtain ⟨s, h1, h2⟩ := getP_some h
  have ns : s ≠ .dead := fun q => by subst q; exact n (dead_way h2)
  obtain ⟨v, F1, Fi, F2, hv, hs, hF, hset⟩ := w.env.at h1 ns
  obtain ⟨u, A, Ft, B, p, hu, hF2, hput⟩ := hs.put h2 (owned_way h2 o)
  refine ⟨u, F1 ++ A, Ft, B ++ F2, ⟨v, hv, p⟩, hu, by rw [hF, hF2]; simp [List.append_assoc], fun I' H' t' Ft' x y k => ?_⟩
  have k1 := hput I' H' t' Ft' x (fun b hb => y b (by
    rcases List.mem_append.mp hb with q | q
    · exact List.mem_append_left _ (List.mem_append_right _ q)
    · exact List.mem_append_right _ (List.mem_append_left _ q))) k
  have k2 := hset I' H' v _ _ x (fun b hb => y b (by
    rcases List.mem_append.mp hb with q | q
    · exact List.mem_append_left _ (List.mem_append_left _ q)
    · exact List.mem_append_right _ (List.mem_append_right _ q))) k1
  rw [set_same hv] at k2
  unfold setP
  rw [h1]
  simpa [List.append_assoc] using k2
theorem W.step {I' H' : Hp} (w : W G I H σ e F) (ex : Ex I I') (ei : Ex I' H') (k : ∀ a ∈ F, H' a = H a) (fr : ∀ a ∈ F, I' a = none) : W G I' H' σ e F :=
  ⟨ei, w.env.step ex k, w.nd, fr⟩
end
end RF
set_option maxHeartbeats 1000000
namespace RF
open PySem PySem.Spec PyProof.Rows L2 Evl
inductive EvR (G : Gr) (I H : Hp) (σ : L2.St) : V → EV → List Addr → Prop
  | sl {v : V} {s : Slot} {F : List Addr} (h : SRep G I H v s F) : EvR G I H σ v (.sl s) F
  | pl {v : V} {i : Nat} {fs : List Nat} (h : PathV G H σ i fs v) : EvR G I H σ v (.pl i fs) []
inductive EvRs (G : Gr) (I H : Hp) (σ : L2.St) : List V → List EV → List Addr → Prop
  | nil : EvRs G I H σ [] [] []
  | cons {v : V} {x : EV} {vs : List V} {xs : List EV} {F1 F2 : List Addr} (h : EvR G I H σ v x F1) (r : EvRs G I H σ vs xs F2) : EvRs G I H σ (v :: vs) (x :: xs) (F1 ++ F2)
def XRep (G : Gr) (I H : Hp) (cls : Value) (d : Option Addr) (x : Exn) : Prop :=
  cls = .ref (G.cl x.c) ∧ ((x.fs = [] ∧ d = none) ∨ x.fs ≠ [] ∧ ∃ a fs, d = some a ∧ H a = some (.xd fs) ∧ RepF G I fs x.fs)
def PostE (G : Gr) (EX : WX) (nc : Bool) (r : R EV) (I H : Hp) (F : List Addr) (σ : L2.St) (Q : VK) : Prop :=
  match r with
  | .ok x e' => ∀ v I' H' F' Fs, Stp nc I H F I' H' (Fs ++ F') → W G I' H' σ e' F' → EvR G I' H' σ v x Fs → (Fs ++ F').Nodup → (∀ a ∈ Fs, I' a = none) → Q v H'
  | .exc x e' => ∀ cls d I' H' F', Stp false I H F I' H' F' → W G I' H' σ e' F' → XRep G I' H' cls d x → EX cls d σ H'
  | .bad => False
def PostT {α : Type} (G : Gr) (EX : WX) (nc : Bool) (r : R α) (I H : Hp) (F : List Addr) (σ : L2.St) (Q : α → Hp → Prop) : Prop :=
  match r with
  | .ok b e' => ∀ I' H' F', Stp nc I H F I' H' F' → W G I' H' σ e' F' → Q b H'
  | .exc x e' => ∀ cls d I' H' F', Stp false I H F I' H' F' → W G I' H' σ e' F' → XRep G I' H' cls d x → EX cls d σ H'
  | .bad => False
def PostA (G : Gr) (EX : WX) (nc : Bool) (r : R (List EV)) (I H : Hp) (F : List Addr) (σ : L2.St) (Q : List V → Hp → Prop) : Prop :=
  match r with
  | .ok xs e' => ∀ vs I' H' F' Fs, Stp nc I H F I' H' (Fs ++ F') → W G I' H' σ e' F' → EvRs G I' H' σ vs xs Fs → (Fs ++ F').Nodup → (∀ a ∈ Fs, I' a = none) → Q vs H'
  | .exc x e' => ∀ cls d I' H' F', Stp false I H F I' H' F' → W G I' H' σ e' F' → XRep G I' H' cls d x → EX cls d σ H'
  | .bad => False
abbrev FE := Env → R EV
abbrev FT := Env → R Bool
abbrev FA := Env → R (List EV)
def tE (G : Gr) (EX : WX) (nc : Bool) (f : FE) : TE := fun σ H Q => ∃ I e F, W G I H σ e F ∧ PostE G EX nc (f e) I H F σ Q
def tT {α : Type} (G : Gr) (EX : WX) (nc : Bool) (f : Env → R α) : L2.St → Hp → (α → Hp → Prop) → Prop := fun σ H Q => ∃ I e F, W G I H σ e F ∧ PostT G EX nc (f e) I H F σ Q
def tA (G : Gr) (EX : WX) (nc : Bool) (f : FA) : TA := fun σ H Q => ∃ I e F, W G I H σ e F ∧ PostA G EX nc (f e) I H F σ Q
def Roots (f : FE) : Prop := ∀ e i fs e', f e = .ok (.pl i fs) e' → fs = []
def RootsA (f : FA) : Prop := ∀ e xs e' i fs, f e = .ok xs e' → EV.pl i fs ∈ xs → fs = []
theorem PE.imp {X : Cx} {e : Expr} {t t' : TE} (h : PE X e t) (q : ∀ σ H Q, t' σ H Q → t σ H Q) : PE X e t' := ⟨fun pins s σ H Q I z => h.run pins s σ H Q I (q σ H Q z)⟩
theorem PT.imp {X : Cx} {e : Expr} {t t' : TT} (h : PT X e t) (q : ∀ σ H Q, t' σ H Q → t σ H Q) : PT X e t' := ⟨fun pins s σ H Q I z => h.run pins s σ H Q I (q σ H Q z)⟩
theorem PW.imp {X : Cx} {e : Expr} {t t' : TT} (h : PW X e t) (q : ∀ σ H Q, t' σ H Q → t σ H Q) : PW X e t' := ⟨fun wh pins s σ H Q I z => h.run wh pins s σ H Q I (q σ H Q z)⟩
theorem PA.imp {X : Cx} {e : List Expr} {t t' : TA} (h : PA X e t) (q : ∀ σ H Q, t' σ H Q → t σ H Q) : PA X e t' := ⟨fun pos pins s σ H Q I z => h.run pos pins s σ H Q I (q σ H Q z)⟩
theorem PS.imp {X : Cx} {e : Stmt} {t t' : TS} (h : PS X e t) (q : ∀ D σ H, t' D σ H → t D σ H) : PS X e t' := ⟨fun pins s σ H D I z => h.run pins s σ H D I (q D σ H z)⟩
theorem PSs.imp {X : Cx} {e : List Stmt} {t t' : TS} (h : PSs X e t) (q : ∀ D σ H, t' D σ H → t D σ H) : PSs X e t' := ⟨fun pins s σ H D I z => h.run pins s σ H D I (q D σ H z)⟩
section
variable {G : Gr} {EX : WX} {n m : Bool} {I I1 I' H H1 H' : Hp} {F F1 F' Fs : List Addr} {σ : L2.St} {e e1 e' : Env} {v : V} {x : EV} {vs : List V} {xs : List EV} {Q : VK}
theorem EvR.there (h : EvR G I H σ v x F) : ∀ a ∈ F, ∃ o, H a = some o := by
  cases h with
  | sl h => exact h.there
  | pl h => exact fun a z => nomatch z
theorem EvRs.there : ∀ {vs : List V} {xs : List EV} {F : List Addr}, EvRs G I H σ vs xs F → ∀ a ∈ F, ∃ o, H a = some o
  | _, _, _, .nil, _, z => nomatch z
  | _, _, _, .cons h r, a, z => (List.mem_append.mp z).elim (h.there a) (r.there a)
theorem PathV.keep {i : Nat} {fs : List Nat} (p : PathV G H σ i fs v) (h : fs = [] ∨ Ex H H') : PathV G H' σ i fs v := by
  obtain ⟨u, h1, h2⟩ := p
  rcases h with h | h
  · subst h; cases h2; exact ⟨_, h1, .nil⟩
  · exact ⟨u, h1, h2.mono h⟩
def StayP (m : Bool) : EV → Prop
  | .pl _ fs => fs = [] ∨ m = true
  | .sl _ => True
theorem EvR.stay (h : EvR G I H σ v x F) (ex : Ex I I') (k : ∀ a ∈ F, H' a = H a) (p : StayP m x) (hk : m = true → Ex H H') : EvR G I' H' σ v x F := by
  cases h with
  | sl h => exact .sl (h.step ex k)
  | pl h => exact .pl (h.keep (p.imp id hk))
theorem EvRs.stay : ∀ {vs : List V} {xs : List EV} {F : List Addr}, EvRs G I H σ vs xs F → Ex I I' → (∀ a ∈ F, H' a = H a) → (∀ x ∈ xs, StayP m x) → (m = true → Ex H H') → EvRs G I' H' σ vs xs F
  | _, _, _, .nil, _, _, _, _ => .nil
  | _, _, _, .cons h r, ex, k, p, hk => .cons (h.stay ex (fun a ha => k a (List.mem_append_left _ ha)) (p _ List.mem_cons_self) hk) (r.stay ex (fun a ha => k a (List.mem_append_right _ ha)) (fun x hx => p x (List.mem_cons_of_mem _ hx)) hk)
theorem EvRs.snoc : ∀ {vs : List V} {xs : List EV} {F : List Addr}, EvRs G I H σ vs xs F → EvR G I H σ v x F1 → EvRs G I H σ (vs ++ [v]) (xs ++ [x]) (F ++ F1)
  | _, _, _, .nil, h => by simpa using EvRs.cons h .nil
  | _, _, _, .cons h r, k => by simpa [List.append_assoc] using EvRs.cons h (r.snoc k)
theorem EvRs.app : ∀ {vs : List V} {xs : List EV} {F : List Addr} {ws : List V} {ys : List EV} {F2 : List Addr}, EvRs G I H σ vs xs F → EvRs G I H σ ws ys F2 → EvRs G I H σ (vs ++ ws) (xs ++ ys) (F ++ F2)
  | _, _, _, _, _, _, .nil, h => h
  | _, _, _, _, _, _, .cons h r, k => by simpa [List.append_assoc] using EvRs.cons h (r.app k)
theorem EvRs.length : ∀ {vs : List V} {xs : List EV} {F : List Addr}, EvRs G I H σ vs xs F → vs.length = xs.length
  | _, _, _, .nil => rfl
  | _, _, _, .cons _ r => congrArg Nat.succ r.length
structure Hld (G : Gr) (nc : Bool) (I H : Hp) (F : List Addr) (σ : L2.St) (vs : List V) (xs : List EV) (e' : Env) (I' H' : Hp) (Fs F' : List Addr) : Prop where
  stp : Stp nc I H F I' H' (Fs ++ F')
  w : W G I' H' σ e' F'
  ev : EvRs G I' H' σ vs xs Fs
  nd : (Fs ++ F').Nodup
  fr : ∀ a ∈ Fs, I' a = none
theorem Hld.start (w : W G I H σ e F) : Hld G true I H F σ [] [] e I H [] F := ⟨Stp.refl _, w, .nil, w.nd, fun a z => nomatch z⟩
theorem nodup_join {A B C : List Addr} (h1 : (A ++ B).Nodup) (h2 : C.Nodup) (h : ∀ a ∈ C, a ∈ A → False) : (A ++ C).Nodup :=
  List.nodup_append.mpr ⟨(List.nodup_append.mp h1).1, h2, fun a ha b hb q => h b hb (q ▸ ha)⟩
theorem Hld.carry (h : Hld G n I H F σ vs xs e1 I1 H1 Fs F1) (p : ∀ x ∈ xs, StayP m x) {Gs : List Addr} (st : Stp m I1 H1 F1 I' H' Gs) :
    Stp (n && m) I H F I' H' (Fs ++ Gs) ∧ EvRs G I' H' σ vs xs Fs ∧ (∀ a ∈ Fs, I' a = none) ∧ ∀ a ∈ Gs, a ∈ Fs → False := by
  have keep : ∀ a ∈ Fs, H' a = H1 a ∧ I' a = I1 a := fun a ha => by
    obtain ⟨o, ho⟩ := h.ev.there a ha
    have na : a ∉ F1 := fun q => (List.nodup_append.mp h.nd).2.2 a ha a q rfl
    obtain ⟨h1, h2⟩ := st.old a o ho na
    exact ⟨h1.trans ho.symm, h2⟩
  have apart : ∀ a ∈ Gs, a ∈ Fs → False := fun a ha hf => by
    rcases st.own a ha with q | q
    · exact (List.nodup_append.mp h.nd).2.2 a hf a q rfl
    · obtain ⟨o, ho⟩ := h.ev.there a hf
      rw [q] at ho; cases ho
  refine ⟨⟨h.stp.ex.trans st.ex, fun a o ha hf => ?_, fun a o ha => ?_, fun a ha => ?_, fun q => ?_⟩, h.ev.stay st.ex (fun a ha => (keep a ha).1) p st.keep, fun a ha => (keep a ha).2.trans (h.fr a ha), apart⟩
  · obtain ⟨h1, h2⟩ := h.stp.old a o ha hf
    have na : a ∉ F1 := fun q => (h.stp.own a (List.mem_append_right _ q)).elim hf fun z => by rw [ha] at z; cases z
    obtain ⟨h3, h4⟩ := st.old a o h1 na
    exact ⟨h3, h4.trans h2⟩
  · obtain ⟨o', h'⟩ := h.stp.dom a o ha
    exact st.dom a o' h'
  · rcases List.mem_append.mp ha with q | q
    · exact h.stp.own a (List.mem_append_left _ q)
    · rcases st.own a q with q | q
      · exact h.stp.own a (List.mem_append_right _ q)
      · cases z : H a with
        | none => exact .inr rfl
        | some o =>
          obtain ⟨o', h'⟩ := h.stp.dom a o z
          rw [q] at h'; cases h'
  · rw [Bool.and_eq_true] at q
    exact (h.stp.keep q.1).trans (st.keep q.2)
theorem Hld.next (h : Hld G n I H F σ vs xs e1 I1 H1 Fs F1) (p : ∀ x ∈ xs, StayP m x) {Gs : List Addr} (st : Stp m I1 H1 F1 I' H' (Gs ++ F')) (w : W G I' H' σ e' F') (r : EvR G I' H' σ v x Gs) (nd : (Gs ++ F').Nodup) (fr : ∀ a ∈ Gs, I' a = none) :
    Hld G (n && m) I H F σ (vs ++ [v]) (xs ++ [x]) e' I' H' (Fs ++ Gs) F' := by
  obtain ⟨h1, h2, h3, h4⟩ := h.carry p st
  refine ⟨by rw [List.append_assoc]; exact h1, w, h2.snoc r, ?_, fun a ha => (List.mem_append.mp ha).elim (h3 a) (fr a)⟩
  rw [List.append_assoc]
  exact nodup_join h.nd nd h4
theorem Hld.nexts {ws : List V} {ys : List EV} (h : Hld G n I H F σ vs xs e1 I1 H1 Fs F1) (p : ∀ x ∈ xs, StayP m x) {Gs : List Addr} (st : Stp m I1 H1 F1 I' H' (Gs ++ F')) (w : W G I' H' σ e' F') (r : EvRs G I' H' σ ws ys Gs) (nd : (Gs ++ F').Nodup) (fr : ∀ a ∈ Gs, I' a = none) :
    Hld G (n && m) I H F σ (vs ++ ws) (xs ++ ys) e' I' H' (Fs ++ Gs) F' := by
  obtain ⟨h1, h2, h3, h4⟩ := h.carry p st
  refine ⟨by rw [List.append_assoc]; exact h1, w, h2.app r, ?_, fun a ha => (List.mem_append.mp ha).elim (h3 a) (fr a)⟩
  rw [List.append_assoc]
  exact nodup_join h.nd nd h4
theorem Hld.out {x : Exn} {r : R EV} (h : Hld G n I H F σ vs xs e1 I1 H1 Fs F1) (q : ∀ cls d I' H' F', Stp false I H F I' H' F' → W G I' H' σ e' F' → XRep G I' H' cls d x → EX cls d σ H') :
    ∀ cls d I' H' F', Stp false I1 H1 F1 I' H' F' → W G I' H' σ e' F' → XRep G I' H' cls d x → EX cls d σ H' := fun cls d I' H' F' st w xr => by
  have h0 : Hld G n I H F σ [] [] e1 I1 H1 [] F1 := ⟨h.stp.weak (fun z => z) fun a ha => List.mem_append_right _ (by simpa using ha), h.w, .nil, h.w.nd, fun a z => nomatch z⟩
  have k := (h0.carry (m := false) (fun x hx => nomatch hx) st).1
  exact q cls d I' H' F' (k.weak (fun z => nomatch z) fun a ha => by simpa using ha) w xr
theorem Hld.eval {f : FE} {Qv : VK} (h : Hld G n I H F σ vs xs e1 I1 H1 Fs F1) (p : ∀ x ∈ xs, StayP m x)
    (q : match f e1 with
      | .ok x e' => ∀ v I' H' Gs F', Hld G (n && m) I H F σ (vs ++ [v]) (xs ++ [x]) e' I' H' (Fs ++ Gs) F' → Qv v H'
      | .exc x e' => ∀ cls d I' H' F', Stp false I H F I' H' F' → W G I' H' σ e' F' → XRep G I' H' cls d x → EX cls d σ H'
      | .bad => False) : tE G EX m f σ H1 Qv := by
  refine ⟨I1, e1, F1, h.w, ?_⟩
  cases z : f e1 with
  | ok x e' =>
    rw [z] at q
    exact fun v I' H' F' Gs st w r nd fr => q v I' H' Gs F' (h.next p st w r nd fr)
  | exc x e' =>
    rw [z] at q
    exact h.out (r := .bad) q
  | bad => rw [z] at q; exact q
theorem Hld.evals {f : FA} {Qv : List V → Hp → Prop} (h : Hld G n I H F σ vs xs e1 I1 H1 Fs F1) (p : ∀ x ∈ xs, StayP m x)
    (q : match f e1 with
      | .ok ys e' => ∀ ws I' H' Gs F', Hld G (n && m) I H F σ (vs ++ ws) (xs ++ ys) e' I' H' (Fs ++ Gs) F' → EvRs G I' H' σ ws ys Gs → Qv ws H'
      | .exc x e' => ∀ cls d I' H' F', Stp false I H F I' H' F' → W G I' H' σ e' F' → XRep G I' H' cls d x → EX cls d σ H'
      | .bad => False) : tA G EX m f σ H1 Qv := by
  refine ⟨I1, e1, F1, h.w, ?_⟩
  cases z : f e1 with
  | ok x e' =>
    rw [z] at q
    exact fun v I' H' F' Gs st w r nd fr => q v I' H' Gs F' (h.nexts p st w r nd fr) r
  | exc x e' =>
    rw [z] at q
    exact h.out (r := .bad) q
  | bad => rw [z] at q; exact q
theorem Hld.test {α : Type} {f : Env → R α} {Qv : α → Hp → Prop} (h : Hld G n I H F σ vs xs e1 I1 H1 Fs F1) (p : ∀ x ∈ xs, StayP m x)
    (q : match f e1 with
      | .ok b e' => ∀ I' H' F', Hld G (n && m) I H F σ vs xs e' I' H' Fs F' → Qv b H'
      | .exc x e' => ∀ cls d I' H' F', Stp false I H F I' H' F' → W G I' H' σ e' F' → XRep G I' H' cls d x → EX cls d σ H'
      | .bad => False) : tT G EX m f σ H1 Qv := by
  refine ⟨I1, e1, F1, h.w, ?_⟩
  cases z : f e1 with
  | ok b e' =>
    rw [z] at q
    refine fun I' H' F' st w => q I' H' F' ?_
    obtain ⟨h1, h2, h3, h4⟩ := h.carry p st
    exact ⟨h1, w, h2, nodup_join h.nd w.nd h4, h3⟩
  | exc x e' =>
    rw [z] at q
    exact h.out (r := .bad) q
  | bad => rw [z] at q; exact q
structure New (I H I' H' : Hp) (Fs : List Addr) : Prop where
  ex : Ex I I'
  exH : Ex H H'
  same : ∀ a o, H a = some o → I' a = I a
  fr : ∀ a ∈ Fs, H a = none ∧ I' a = none
  nd : Fs.Nodup
  inn : Ex I' H'
theorem New.refl (e : Ex I H) : New I H I H [] := ⟨Ex.refl _, Ex.refl _, fun _ _ _ => rfl, fun a z => (nomatch z), List.nodup_nil, e⟩
theorem in_none (e : Ex I H) {p : Addr} (h : H p = none) : I p = none := by
  cases q : I p with
  | none => rfl
  | some o => rw [e p o q] at h; cases h
theorem New.imm (e : Ex I H) {p : Addr} {o : HO} (h : H p = none) : New I H (upd I p o) (upd H p o) [] :=
  ⟨Ex.new (in_none e h), Ex.new h, fun a u q => upd_ne (ne_of_none q h), fun a z => (nomatch z), List.nodup_nil, fun a u q => by
    by_cases z : a = p
    · subst z; rw [upd_same] at q ⊢; exact q
    · rw [upd_ne z] at q ⊢; exact e a u q⟩
theorem New.own (e : Ex I H) {p : Addr} {o : HO} (h : H p = none) : New I H I (upd H p o) [p] :=
  ⟨Ex.refl _, Ex.new h, fun a u q => rfl, fun a z => by rw [List.mem_singleton.mp z]; exact ⟨h, in_none e h⟩, (by simp), e.trans (Ex.new h)⟩
theorem New.there (k : New I H I' H' Fs) (h : Hld G n I1 H1 F1 σ vs xs e I H Gs F) : Stp n I1 H1 F1 I' H' (Fs ++ F) ∧ W G I' H' σ e F ∧ (Fs ++ F).Nodup := by
  have keep : ∀ a ∈ F, H' a = H a ∧ I' a = I a := fun a ha => by
    obtain ⟨o, ho⟩ := h.w.env.there a ha
    exact ⟨(k.exH a o ho).trans ho.symm, k.same a o ho⟩
  have w := h.w.step k.ex k.inn (fun a ha => (keep a ha).1) fun a ha => (keep a ha).2.trans (h.w.fr a ha)
  refine ⟨⟨h.stp.ex.trans k.ex, fun a o ha hf => ?_, fun a o ha => ?_, fun a ha => ?_, fun q => (h.stp.keep q).trans k.exH⟩, w, List.nodup_append.mpr ⟨k.nd, w.nd, fun a ha b hb q => ?_⟩⟩
  · obtain ⟨h1, h2⟩ := h.stp.old a o ha hf
    exact ⟨k.exH a o h1, (k.same a o h1).trans h2⟩
  · obtain ⟨o', h'⟩ := h.stp.dom a o ha
    exact ⟨o', k.exH a o' h'⟩
  · rcases List.mem_append.mp ha with q | q
    · cases z : H1 a with
      | none => exact .inr rfl
      | some o =>
        obtain ⟨o', h'⟩ := h.stp.dom a o z
        rw [(k.fr a q).1] at h'; cases h'
    · exact h.stp.own a (List.mem_append_right _ q)
  · subst q
    obtain ⟨o, ho⟩ := h.w.env.there a hb
    rw [(k.fr a ha).1] at ho; cases ho
theorem Hld.done {s : Slot} (h : Hld G n I1 H1 F1 σ vs xs e I H Gs F) (q : PostE G EX n (.ok (.sl s) e) I1 H1 F1 σ Q) (k : New I H I' H' Fs) (r : SRep G I' H' v s Fs) : Q v H' := by
  obtain ⟨h1, h2, h3⟩ := k.there h
  exact q v I' H' F Fs h1 h2 (.sl r) h3 fun a ha => (k.fr a ha).2
end
end RF
set_option maxHeartbeats 1000000
namespace RF
open PySem PySem.Spec PyProof.Rows L2 Evl
mutual
inductive BRep (G : Gr) (I H : Hp) : V → PV → Prop
  | imm {v : V} {p : PV} (h : Rep G I v p) : BRep G I H v p
  | lst {a : Addr} {vs : List V} {xs : List PV} (h : H a = some (.lst vs)) (r : RepL G I vs xs) : BRep G I H (.ref a) (.lst xs)
  | dic {a : Addr} {d : HO} {kvs : List (PV × PV)} (h : H a = some d) (r : RepK G I a d kvs) : BRep G I H (.ref a) (.dic kvs)
  | ins {a dx : Addr} {c : Nat} {fs : List (Str × V)} {gs : List (Nat × PV)} (h : H a = some (.ins (G.cl c) dx fs)) (t : (gs.all fun p => G.att c p.1) = true) (r : BRepF G I H fs gs) : BRep G I H (.ref a) (.ins c gs)
inductive BRepF (G : Gr) (I H : Hp) : List (Str × V) → List (Nat × PV) → Prop
  | nil : BRepF G I H [] []
  | cons {n : Nat} {v : V} {x : PV} {fs : List (Str × V)} {gs : List (Nat × PV)} (h : BRep G I H v x) (r : BRepF G I H fs gs) : BRepF G I H ((G.an n, v) :: fs) ((n, x) :: gs)
end
section
variable {G : Gr} {I I' H H' : Hp} {F F' Fs : List Addr} {σ : L2.St} {e e' : Env} {v u : V} {x : EV} {p : PV} {s : Slot} {vs : List V} {xs : List EV} {ps : List PV} {Q : VK}
mutual
theorem SRep.b : ∀ {v : V} {s : Slot} {F : List Addr}, SRep G I H v s F → live s = true → BRep G I H v (frz s)
  | _, _, _, .val h, _ => by rw [frz]; exact .imm h
  | _, _, _, .dead, l => by rw [live] at l; cases l
  | _, _, _, .own _ _, l => by rw [live] at l; cases l
  | _, _, _, .olst h r, _ => by rw [frz]; exact .lst h r
  | _, _, _, .odic h r, _ => by rw [frz]; exact .dic h r
  | _, _, _, .oins h t r, l => by
    rw [frz]
    rw [live] at l
    exact .ins h (att_frz t) (r.b l)
theorem SRepF.b : ∀ {v : List (Str × V)} {s : List (Nat × Slot)} {F : List Addr}, SRepF G I H v s F → liveF s = true → BRepF G I H v (frzF s)
  | _, _, _, .nil, _ => by rw [frzF]; exact .nil
  | _, _, _, .cons h r, l => by
    rw [frzF]
    rw [liveF, Bool.and_eq_true] at l
    exact .cons (h.b l.1) (r.b l.2)
end
mutual
theorem BRep.now (e : Ex I H) : ∀ {v : V} {p : PV}, BRep G I H v p → Rep G H v p
  | _, _, .imm h => h.mono e
  | _, _, .lst h r => .lst h (r.mono e)
  | _, _, .dic h r => .dic h (r.mono e)
  | _, _, .ins h t r => .ins h t (r.now e)
theorem BRepF.now (e : Ex I H) : ∀ {v : List (Str × V)} {p : List (Nat × PV)}, BRepF G I H v p → RepF G H v p
  | _, _, .nil => .nil
  | _, _, .cons h r => .cons (h.now e) (r.now e)
end
theorem BRep.to_int {i : Int} (h : BRep G I H v (.int i)) : v = .int i := by cases h with | imm h => cases h; rfl
theorem BRep.to_bl {i : Bool} (h : BRep G I H v (.bl i)) : v = .bl i := by cases h with | imm h => cases h; rfl
theorem BRep.to_str {i : Str} (h : BRep G I H v (.str i)) : v = .str i := by cases h with | imm h => cases h; rfl
theorem BRep.to_non (h : BRep G I H v .non) : v = .non := by cases h with | imm h => cases h; rfl
theorem BRep.to_tup (ex : Ex I H) (h : BRep G I H v (.tup ps)) : ∃ a vs, v = .ref a ∧ SqT G.K I a vs ∧ SqT G.K H a vs ∧ RepL G I vs ps := by
  cases h with
  | imm h => cases h with | tup h r => exact ⟨_, _, rfl, h, ex_t ex h, r⟩
theorem BRep.to_lst (ex : Ex I H) (h : BRep G I H v (.lst ps)) : ∃ a vs, v = .ref a ∧ H a = some (.lst vs) ∧ RepL G I vs ps := by
  cases h with
  | imm h => cases h with | lst h r => exact ⟨_, _, rfl, ex _ _ h, r⟩
  | lst h r => exact ⟨_, _, rfl, h, r⟩
theorem BRep.to_xls (ex : Ex I H) (h : BRep G I H v (.xls ps)) : ∃ a vs, v = .ref a ∧ SqL G.K H a vs ∧ RepL G I vs ps := by
  cases h with
  | imm h => cases h with | xls h r => exact ⟨_, _, rfl, ex_l ex h, r⟩
theorem PathS.det {fs : List Nat} {v u w : V} (a : PathS G H v fs u) (b : PathS G H v fs w) : u = w := by
  induction a with
  | nil => cases b; rfl
  | cons h t l p ih =>
    cases b with
    | cons h' t' l' p' =>
      rw [h] at h'
      injection h' with h'
      injection h' with _ _ h'
      subst h'
      rw [l] at l'; cases l'
      exact ih p'
    | ix h' _ _ _ => rw [h] at h'; cases h'
  | ix h hb l p ih =>
    cases b with
    | cons h' _ _ _ => rw [h] at h'; cases h'
    | ix h' hb' l' p' =>
      rw [h] at h'
      cases h'
      rw [l] at l'; cases l'
      exact ih p'
theorem PathV.det {i : Nat} {fs : List Nat} {u w : V} (a : PathV G H σ i fs u) (b : PathV G H σ i fs w) : u = w := by
  obtain ⟨v, h1, h2⟩ := a
  obtain ⟨v', h1', h2'⟩ := b
  rw [h1] at h1'; cases h1'
  exact h2.det h2'
theorem live_ne : live s = true → s ≠ .dead := fun l q => by subst q; rw [live] at l; cases l
theorem EvR.b (h : EvR G I H σ v x F) (w : W G I H σ e F') (q : valOf e x = some p) : BRep G I H v p := by
  cases h with
  | sl hs =>
    rw [valOf] at q
    split at q
    · rename_i l
      cases q
      exact SRep.b hs l
    · cases q
  | @pl i fs h =>
    rw [valOf] at q
    cases z : getP e i fs with
    | none => rw [z] at q; cases q
    | some s =>
      rw [z] at q
      dsimp only at q
      split at q
      · rename_i l
        cases q
        obtain ⟨u, A, Ft, B, hp, hs, _⟩ := w.get z (live_ne l)
        rw [h.det hp]
        exact hs.b l
      · cases q
inductive BReps (G : Gr) (I H : Hp) : List V → List PV → Prop
  | nil : BReps G I H [] []
  | cons {v : V} {p : PV} {vs : List V} {ps : List PV} (h : BRep G I H v p) (r : BReps G I H vs ps) : BReps G I H (v :: vs) (p :: ps)
theorem EvRs.b (w : W G I H σ e F') : ∀ {vs : List V} {xs : List EV} {F : List Addr} {ps : List PV}, EvRs G I H σ vs xs F → valsOf e xs = some ps → BReps G I H vs ps
  | _, _, _, _, .nil, q => by cases q; exact .nil
  | _, _, _, _, @EvRs.cons _ _ _ _ v x vs xs F1 F2 h r, q => by
    rw [valsOf] at q
    cases z1 : valOf e x with
    | none => rw [z1] at q; cases q
    | some p =>
      cases z2 : valsOf e xs with
      | none => rw [z1, z2] at q; cases q
      | some ps =>
        rw [z1, z2] at q
        cases q
        exact .cons (h.b w z1) (r.b w z2)
def Fin (G : Gr) (I H : Hp) (s : Slot) (Q : VK) : Prop := ∀ v I' H' Fs, New I H I' H' Fs → SRep G I' H' v s Fs → Q v H'
theorem Fin.val (q : Fin G I H (.val p) Q) (ex : Ex I H) (r : Rep G I v p) : Q v H := q v I H [] (New.refl ex) (.val r)
theorem Fin.tup {vs : List V} (q : Fin G I H (.val (.tup ps)) Q) (ex : Ex I H) (r : RepL G I vs ps) {a : Addr} (h : H a = none) : Q (.ref a) (upd H a (.tup vs)) :=
  q (.ref a) (upd I a (.tup vs)) _ [] (New.imm ex h) (.val (.tup (.inl (.inl upd_same)) (r.mono (Ex.new (in_none ex h)))))
theorem Fin.lst {vs : List V} (q : Fin G I H (.olst ps) Q) (ex : Ex I H) (r : RepL G I vs ps) {a : Addr} (h : H a = none) : Q (.ref a) (upd H a (.lst vs)) :=
  q (.ref a) I _ [a] (New.own ex h) (.olst upd_same r)
theorem lim_le : lim ≤ sizeLine := by rw [sizeLine_eq]; decide
theorem RepL.ints : ∀ {vs : List V} {ps : List PV} {is : List Int}, RepL G I vs ps → intsOf ps = some is → vs = is.map V.int
  | _, _, _, .nil, q => by cases q; rfl
  | _, _, _, @RepL.cons _ _ v vs x xs h r, q => by
    cases h with
    | int i =>
      rw [intsOf] at q
      cases z : intsOf xs with
      | none => rw [z] at q; cases q
      | some js =>
        rw [z] at q
        cases q
        rw [r.ints z]; rfl
    | _ => cases q
theorem RepL.strs : ∀ {vs : List V} {ps : List PV} {is : List Str}, RepL G I vs ps → strsOf ps = some is → vs = is.map V.str
  | _, _, _, .nil, q => by cases q; rfl
  | _, _, _, @RepL.cons _ _ v vs x xs h r, q => by
    cases h with
    | str i =>
      rw [strsOf] at q
      cases z : strsOf xs with
      | none => rw [z] at q; cases q
      | some js =>
        rw [z] at q
        cases q
        rw [r.strs z]; rfl
    | _ => cases q
theorem RepL.bls : ∀ {vs : List V} {ps : List PV} {is : List Bool}, RepL G I vs ps → blsOf ps = some is → vs = is.map V.bl
  | _, _, _, .nil, q => by cases q; rfl
  | _, _, _, @RepL.cons _ _ v vs x xs h r, q => by
    cases h with
    | bl i =>
      rw [blsOf] at q
      cases z : blsOf xs with
      | none => rw [z] at q; cases q
      | some js =>
        rw [z] at q
        cases q
        rw [r.bls z]; rfl
    | _ => cases q
mutual
def noDict : PyData → Bool
  | .dict _ => false
  | .list xs => noDicts xs
  | .tuple xs => noDicts xs
  | _ => true
def noDicts : List PyData → Bool
  | [] => true
  | x :: r => noDict x && noDicts r
end
mutual
theorem noDict_lay : ∀ d : PyData, d.canLay0 = true → noDict d = true
  | .none, _ => by simp [noDict]
  | .bool _, _ => by simp [noDict]
  | .int _, _ => by simp [noDict]
  | .str _, _ => by simp [noDict]
  | .list xs, h => by rw [noDict]; exact noDicts_lay xs (by simpa [PyData.canLay0] using h)
  | .tuple xs, h => by rw [noDict]; exact noDicts_lay xs (by simpa [PyData.canLay0] using h)
  | .dict _, h => by simp [PyData.canLay0] at h
theorem noDicts_lay : ∀ d : List PyData, PyData.canLayAll0 d = true → noDicts d = true
  | [], _ => by simp [noDicts]
  | x :: r, h => by
    rw [PyData.canLayAll0, Bool.and_eq_true] at h
    rw [noDicts, noDict_lay x h.1, noDicts_lay r h.2]; rfl
end
mutual
theorem noDict_self : ∀ d : PyData, PySem.W.alike d d = true → noDict d = true
  | .none, _ => by simp [noDict]
  | .bool _, _ => by simp [noDict]
  | .int _, _ => by simp [noDict]
  | .str _, _ => by simp [noDict]
  | .list xs, h => by rw [noDict]; exact noDicts_self xs (by simpa [PySem.W.alike] using h)
  | .tuple xs, h => by rw [noDict]; exact noDicts_self xs (by simpa [PySem.W.alike] using h)
  | .dict _, h => by simp [PySem.W.alike] at h
theorem noDicts_self : ∀ d : List PyData, PySem.W.alikeAll d d = true → noDicts d = true
  | [], _ => by simp [noDicts]
  | x :: r, h => by
    rw [PySem.W.alikeAll, Bool.and_eq_true] at h
    rw [noDicts, noDict_self x h.1, noDicts_self r h.2]; rfl
end
mutual
theorem Rep.dp : ∀ {v : V} {p : PV}, Rep G I v p → noDict (toD p) = true → Dp G.K I v (toD p)
  | _, _, .non, _ => .non
  | _, _, .bl b, _ => .bl b
  | _, _, .int i, _ => .int i
  | _, _, .str x, _ => .str x
  | _, _, .tup h r, q => .tup h (r.dp (by simpa [toD, noDict] using q))
  | _, _, .lst h r, q => .lst (.inl (.inl h)) (r.dp (by simpa [toD, noDict] using q))
  | _, _, .xls h r, q => by simp [toD, noDict] at q
  | _, _, .dic h r, q => by simp [toD, noDict] at q
  | _, _, .ins h t r, q => by simp [toD, noDict] at q
theorem RepL.dp : ∀ {vs : List V} {ps : List PV}, RepL G I vs ps → noDicts (toDs ps) = true → DpAll G.K I vs (toDs ps)
  | _, _, .nil, _ => by rw [toDs]; exact .nil
  | _, _, .cons h r, q => by
    rw [toDs, noDicts, Bool.and_eq_true] at q
    rw [toDs]
    exact .cons (h.dp q.1) (r.dp q.2)
end
theorem okD_no (h : okD p = true) : noDict (toD p) = true := noDict_lay _ (SeqAt.canLay_of_shaped h)
end
end RF
set_option maxHeartbeats 1000000
namespace RF
open PySem PySem.Spec PyProof.Rows L2 Evl
def KeysAt (K : PySem.W.Frag) (H : Hp) (xs : List (NKey × Addr × Value)) : Prop := ∀ x ∈ xs, Dp K H (.ref x.2.1) x.1.1
def DLook (K : PySem.W.Frag) (w : World) (H : Hp) (a : Addr) (x : V) (o : Option V) : Prop :=
  (∃ kvs k, H a = some (.dK kvs) ∧ x = kV k ∧ o = valV kvs k) ∨
  (∃ b, ∃ d : NKey, x = .ref b ∧ H a = some (.dK []) ∧ Dp K H x d.1 ∧ o = none) ∨
  ∃ xs b, ∃ d : NKey, x = .ref b ∧ H a = some (dN w a xs) ∧ Dp K H x d.1 ∧ KeysAt K H xs ∧ ((atKey xs d = none ∧ o = none) ∨ ∃ p v, atKey xs d = some p ∧ RelV v p.2 ∧ o = some v)
def DStore (K : PySem.W.Frag) (w : World) (H : Hp) (a : Addr) (i v : V) (Q : Hp → Prop) : Prop :=
  (∃ kvs k, H a = some (.dK kvs) ∧ i = kV k ∧ kvs.length < sizeLine ∧ Q (upd H a (.dK (putK kvs k v)))) ∨
  (∃ b, ∃ d : NKey, i = .ref b ∧ H a = some (.dK []) ∧ Dp K H i d.1 ∧ ∀ u, RelV v u → Q (upd H a (dN w a [(d, b, u)]))) ∨
  ∃ xs b, ∃ d : NKey, i = .ref b ∧ H a = some (dN w a xs) ∧ Dp K H i d.1 ∧ KeysAt K H xs ∧ xs.length < sizeLine ∧ ∀ u, RelV v u → Q (upd H a (dN w a (storedH xs d b u)))
def rDIn (K : PySem.W.Frag) (w : World) (f : Bool → Bool) : R2 := fun x y H Q => ∃ a o, y = .ref a ∧ DLook K w H a x o ∧ Q (.bl (f o.isSome)) H
def rDIx (K : PySem.W.Frag) (w : World) : R2 := fun x y H Q => ∃ a v, x = .ref a ∧ DLook K w H a y (some v) ∧ Q v H
def rSetD (K : PySem.W.Frag) (w : World) : TSet := fun o i v H Q => ∃ a, o = .ref a ∧ DStore K w H a i v Q
section
variable {X : Cx} {pins : List (Addr × Obj)} {σ : L2.St} {H : Hp} {s : Shared}
theorem dict_empty {prog : Program} {w : World} {h : Heap} {a : Addr} (ok : ObjOk prog w H h a (.dK [])) : (a == sysModules) = false ∧ Heap.DictOfH (nestKind prog w) h a [] := by
  obtain ⟨h1, h2, kvs, h3, o, es, ep, h4, h5, h6, h7, h8, h9⟩ := ok
  cases h3
  have he : es.toList = [] := by
    generalize es.toList = l at h8
    cases h8
    rfl
  exact ⟨h2, o, es, ep, h4, h5, h6, he, nofun, .nil⟩
theorem keys_is (I : Inv X pins σ H s) {xs : List (NKey × Addr × Value)} (h : KeysAt X.K H xs) : ∀ x ∈ xs, (nestKind X.prog X.w).is s.heap x.1 x.2.1 := fun x hx => Dp.reads I _ _ _ (h x hx) rfl
theorem key_is (I : Inv X pins σ H s) {d : NKey} {b : Addr} (h : Dp X.K H (.ref b) d.1) : (nestKind X.prog X.w).is s.heap d b := Dp.reads I _ _ _ h rfl
theorem Inv.tk (I : Inv X pins σ H s) (t : Nat) : Inv X pins σ H { s with toks := t } := I.kept (t' := t) fun _ _ q => q
theorem op_dIn (hu : X.A.units + 70 < cLine) : OpR X (compareOp .In) (rDIn X.K X.w fun b => b) := by
  intro pins s σ H x y v u Q I rx ry h
  obtain ⟨a, o, rfl, hd, q⟩ := h
  have ry' : u = .ref a := ry
  subst ry'
  rcases hd with ⟨kvs, k, h1, rfl, rfl⟩ | ⟨b, d, rfl, h1, h2, rfl⟩ | ⟨xs, b, d, rfl, h1, h2, h3, h4⟩
  · exact d_in (by omega) I (.inl ⟨kvs, k, .inl h1, rfl, rfl⟩) rx fun s' I' => ⟨.bl _, H, I', rfl, q⟩
  · have rx' : v = .ref b := rx
    subst rx'
    obtain ⟨e1, e2⟩ := dict_empty (I.hok _ _ h1)
    exact wpAny_in_heap (knd := nestKind X.prog X.w) (by show X.A.units + 1 + 9 < cLine; omega) (key_is I h2) e1 e2 ⟨.bl _, H, Inv.tk I _, rfl, q⟩
  · have rx' : v = .ref b := rx
    subst rx'
    obtain ⟨e1, _, e2⟩ := dN_to (I.hok _ _ h1) (keys_is I h3)
    refine wpAny_in_heap (knd := nestKind X.prog X.w) (by show X.A.units + 1 + 9 < cLine; omega) (key_is I h2) e1 e2 ⟨.bl _, H, Inv.tk I _, rfl, ?_⟩
    rcases h4 with ⟨z, rfl⟩ | ⟨p, v, z, _, rfl⟩ <;> rw [z] <;> exact q
theorem op_dNotIn (hu : X.A.units + 70 < cLine) : OpR X (compareOp .NotIn) (rDIn X.K X.w fun b => !b) := by
  intro pins s σ H x y v u Q I rx ry h
  obtain ⟨a, o, rfl, hd, q⟩ := h
  have ry' : u = .ref a := ry
  subst ry'
  rcases hd with ⟨kvs, k, h1, rfl, rfl⟩ | ⟨b, d, rfl, h1, h2, rfl⟩ | ⟨xs, b, d, rfl, h1, h2, h3, h4⟩
  · exact d_notIn (by omega) I (.inl ⟨kvs, k, .inl h1, rfl, rfl⟩) rx fun s' I' => ⟨.bl _, H, I', rfl, q⟩
  · have rx' : v = .ref b := rx
    subst rx'
    obtain ⟨e1, e2⟩ := dict_empty (I.hok _ _ h1)
    exact PyProof.Rows.wpAny_notIn_heap (knd := nestKind X.prog X.w) (by show X.A.units + 1 + 9 < cLine; omega) (key_is I h2) e1 e2 ⟨.bl _, H, Inv.tk I _, rfl, q⟩
  · have rx' : v = .ref b := rx
    subst rx'
    obtain ⟨e1, _, e2⟩ := dN_to (I.hok _ _ h1) (keys_is I h3)
    refine PyProof.Rows.wpAny_notIn_heap (knd := nestKind X.prog X.w) (by show X.A.units + 1 + 9 < cLine; omega) (key_is I h2) e1 e2 ⟨.bl _, H, Inv.tk I _, rfl, ?_⟩
    rcases h4 with ⟨z, rfl⟩ | ⟨p, v, z, _, rfl⟩ <;> rw [z] <;> exact q
theorem ix_dict (hu : X.A.units + 70 < cLine) : IxR X (rDIx X.K X.w) := by
  intro value slice pins s σ H x y v u Q I rx ry h hs
  obtain ⟨a, w, rfl, hd, q⟩ := h
  have rx' : v = .ref a := rx
  subst rx'
  rcases hd with ⟨kvs, k, h1, rfl, e⟩ | ⟨b, d, rfl, h1, h2, e⟩ | ⟨xs, b, d, rfl, h1, h2, h3, h4⟩
  · have ht : s.TypeIs (.ref a) "dict" := dict_typeIs I (.inl ⟨kvs, k, .inl h1, rfl, e⟩)
    refine PyProof.Rows.tail_any ht PySem.F.slot_dict_getitem.lookup ?_ hs
    exact d_getItem (by omega) I (.inl ⟨kvs, k, .inl h1, rfl, e⟩) ry fun w' s' I' r' => ⟨w, H, I', r', q⟩
  · cases e
  · have ry' : u = .ref b := ry
    subst ry'
    obtain ⟨e1, _, e2⟩ := dN_to (I.hok _ _ h1) (keys_is I h3)
    refine PyProof.Rows.tail_any e2.typeIs PySem.F.slot_dict_getitem.lookup ?_ hs
    rcases h4 with ⟨z, e⟩ | ⟨p, v, z, rv, e⟩
    · cases e
    · cases e
      exact wpAny_getItem_heap (knd := nestKind X.prog X.w) (by show X.A.units + 1 + 9 < cLine; omega) (key_is I h2) e2 z ⟨w, H, Inv.tk I _, rv, q⟩
theorem set_dict (hu : X.A.units + 70 < cLine) : PSet X (rSetD X.K X.w) := by
  intro pins s σ H o i v ov iv u Q I ro ri rv h
  obtain ⟨a, rfl, hd⟩ := h
  have ro' : ov = .ref a := ro
  subst ro'
  have fin : ∀ {h' : Heap} {t : Nat} {xs : List (NKey × Addr × Value)}, L2.Mut (H a) → (a == sysModules) = false → xs.length ≤ sizeLine → Heap.SameBut a s.heap h' → Heap.DictOfH (nestKind X.prog X.w) h' a xs → Q (upd H a (dN X.w a xs)) → ∃ H', Inv X pins σ H' { s with heap := h', toks := t } ∧ Q H' := fun {h' t xs} hm h1 h2 h3 h4 q => by
    have h5 := h4
    obtain ⟨ob, _, _, h6, _⟩ := h5
    exact ⟨_, d_write (t' := t) I hm h3 ⟨ob, h6⟩ (dN_of h1 h2 h4 _), q⟩
  rcases hd with ⟨kvs, k, h1, rfl, hl, q⟩ | ⟨b, d, rfl, h1, h2, q⟩ | ⟨xs, b, d, rfl, h1, h2, h3, hl, q⟩
  · exact d_setItem (by omega) I (.inl ⟨kvs, k, h1, rfl, hl, rfl⟩) ri rv fun s' I' => ⟨_, I', q⟩
  · have ri' : iv = .ref b := ri
    subst ri'
    obtain ⟨e1, e2⟩ := dict_empty (I.hok _ _ h1)
    refine wpAny_setItem_heap (knd := nestKind X.prog X.w) (by show X.A.units + 1 + 9 < cLine; omega) (key_is I h2) e2 (fun h' k1 k2 => ?_) (Nat.zero_le _)
    exact fin (xs := [(d, b, u)]) (by rw [h1]; trivial) e1 (by rw [sizeLine_eq]; show 1 ≤ _; decide) k2 k1 (q u rv)
  · have ri' : iv = .ref b := ri
    subst ri'
    obtain ⟨e1, e0, e2⟩ := dN_to (I.hok _ _ h1) (keys_is I h3)
    refine wpAny_setItem_heap (knd := nestKind X.prog X.w) (by show X.A.units + 1 + 9 < cLine; omega) (key_is I h2) e2 (fun h' k1 k2 => ?_) e0
    refine fin (by rw [h1]; trivial) e1 ?_ k2 k1 (q u rv)
    unfold storedH
    split
    · rw [List.length_map]; exact e0
    · rw [List.length_append]; exact hl
theorem PSet.or {t t' : TSet} (h : PSet X t) (h' : PSet X t') : PSet X fun o i v H Q => t o i v H Q ∨ t' o i v H Q := by
  intro pins s σ H o i v ov iv u Q I ro ri rv z
  exact z.elim (h pins s σ H o i v ov iv u Q I ro ri rv) (h' pins s σ H o i v ov iv u Q I ro ri rv)
def rDLen : List V → Hp → VK → Prop := fun vs H Q => ∃ a kvs, vs = [.ref a] ∧ H a = some (.dK kvs) ∧ Q (.int kvs.length) H
theorem cr_lenN : CallR X (.builtin "len") rDLen := call_lenD
end
mutual
theorem toD_inj : ∀ (n : Nat) (p q : PV), keyOk n (toD p) = true → toD p = toD q → p = q
  | n, .int i, q, _, h => by cases q <;> simp [toD] at h; rw [h]
  | n, .str i, q, _, h => by cases q <;> simp [toD] at h; rw [h]
  | n + 1, .tup ps, q, hk, h => by
    rw [toD, ko_tup] at hk
    cases q with
    | tup qs =>
      simp only [toD, PyData.tuple.injEq] at h
      rw [toDs_inj n ps qs hk h]
    | _ => simp [toD] at h
  | 0, .tup ps, q, hk, _ => by rw [toD, ko_tup0] at hk; cases hk
  | n, .non, q, hk, _ => by rw [toD, ko_none] at hk; cases hk
  | n, .bl _, q, hk, _ => by rw [toD, ko_bool] at hk; cases hk
  | n, .lst _, q, hk, _ => by rw [toD, ko_list] at hk; cases hk
  | n, .xls _, q, hk, _ => by rw [toD, ko_dict] at hk; cases hk
  | n, .dic _, q, hk, _ => by rw [toD, ko_dict] at hk; cases hk
  | n, .ins _ _, q, hk, _ => by rw [toD, ko_dict] at hk; cases hk
theorem toDs_inj : ∀ (n : Nat) (p q : List PV), keyOks n (toDs p) = true → toDs p = toDs q → p = q
  | n, [], [], _, _ => rfl
  | n, [], _ :: _, _, h => by simp [toDs] at h
  | n, _ :: _, [], _, h => by simp [toDs] at h
  | n, x :: p, y :: q, hk, h => by
    rw [toDs, kos_cons, Bool.and_eq_true] at hk
    simp only [toDs, List.cons.injEq] at h
    rw [toD_inj n x y hk.1 h.1, toDs_inj n p q hk.2 h.2]
end
mutual
theorem noDict_key : ∀ (n : Nat) (d : PyData), keyOk n d = true → noDict d = true
  | n, .int _, _ => by simp [noDict]
  | n, .str _, _ => by simp [noDict]
  | n + 1, .tuple ds, h => by
    rw [ko_tup] at h
    simpa [noDict] using noDicts_key n ds h
  | 0, .tuple ds, h => by rw [ko_tup0] at h; cases h
  | n, .none, h => by rw [ko_none] at h; cases h
  | n, .bool _, h => by rw [ko_bool] at h; cases h
  | n, .list _, h => by rw [ko_list] at h; cases h
  | n, .dict _, h => by rw [ko_dict] at h; cases h
theorem noDicts_key : ∀ (n : Nat) (d : List PyData), keyOks n d = true → noDicts d = true
  | n, [], _ => by simp [noDicts]
  | n, x :: r, h => by
    rw [kos_cons, Bool.and_eq_true] at h
    simp [noDicts, noDict_key n x h.1, noDicts_key n r h.2]
end
section
variable {G : Gr} {I H : Hp} {a : Addr} {d : HO} {kvs : List (PV × PV)} {k : PV} {x : V}
theorem pK_inj {a b : Key} (h : pK a = pK b) : a = b := by
  cases a <;> cases b <;> simp [pK] at h <;> rw [h]
theorem flat_pK (k : Key) : flatK (pK k) = true := by cases k <;> rfl
theorem flat_nest {p : PV} (h : flatK p = true) : nestK p = false := by cases p <;> simp [flatK, nestK] at *
theorem nest_flat {p : PV} (h : nestK p = true) : flatK p = false := by cases p <;> simp [flatK, nestK] at *
theorem nest_key {p : PV} (h : nestK p = true) : keyOk 8 (toD p) = true := by cases p <;> simp [nestK] at h; exact h
theorem rep_nest {p : PV} {b : Addr} (h : Rep G I (.ref b) p) : flatK p = false := by cases h <;> rfl
theorem look_flat : ∀ {d : HO} {kvs : List (PV × PV)}, RepK G I a d kvs → ∀ {l : List (Key × V)}, d = .dK l → ∀ key : Key, (valV l key).isSome = (dGet kvs (pK key)).isSome ∧ ∀ p, dGet kvs (pK key) = some p → ∃ v, valV l key = some v ∧ Rep G I v p
  | _, _, .nil, l, hd, key => by cases hd; exact ⟨rfl, nofun⟩
  | _, _, @RepK.cons _ _ _ k v x kvs gs h r, l, hd, key => by
    cases hd
    obtain ⟨i1, i2⟩ := look_flat r rfl key
    unfold valV dGet at *
    rw [List.find?_cons, List.find?_cons]
    by_cases c : k = key
    · subst c
      simp only [decide_true]
      exact ⟨rfl, fun p e => by cases e; exact ⟨_, rfl, h⟩⟩
    · have c' : ¬ pK k = pK key := fun e => c (pK_inj e)
      simp only [decide_eq_false c, decide_eq_false c']
      exact ⟨i1, i2⟩
  | _, _, .nest _ _, l, hd, key => by unfold dN at hd; cases hd
theorem look_nest {k : PV} (hk : keyOk 8 (toD k) = true) : ∀ {xs : List (NKey × Addr × Value)} {kvs : List (PV × PV)}, RepN G I xs kvs → ∀ d : NKey, toD k = d.1 → (atKey xs d = none ∧ dGet kvs k = none) ∨ ∃ p v q, atKey xs d = some p ∧ RelV v p.2 ∧ dGet kvs k = some q ∧ Rep G I v q
  | _, _, .nil, d, e => .inl ⟨rfl, rfl⟩
  | _, _, @RepN.cons _ _ kk b u v p x xs gs h1 h2 h3 h4 r, d, e => by
    have ih := look_nest hk r d e
    unfold atKey dGet at *
    rw [List.find?_cons, List.find?_cons]
    by_cases c : kk = d
    · have c' : p = k := (toD_inj 8 k p hk (by rw [e, h1, c])).symm
      simp only [decide_eq_true c, decide_eq_true c']
      exact .inr ⟨_, _, _, rfl, h3, rfl, h4⟩
    · have c' : ¬ p = k := fun z => c (Subtype.ext (by rw [← h1, ← e, z]))
      simp only [decide_eq_false c, decide_eq_false c']
      exact ih
theorem fam_flat (h : dKeyOk kvs k = true) (hk : flatK k = true) : ∀ p ∈ kvs, flatK p.1 = true := fun p hp => by
  unfold dKeyOk famK at h
  rw [Bool.and_eq_true, List.all_eq_true] at h
  have := h.2 p hp
  rw [flat_nest hk, Bool.and_false, Bool.or_false, Bool.and_eq_true] at this
  exact this.1
theorem fam_nest (h : dKeyOk kvs k = true) (hk : nestK k = true) : ∀ p ∈ kvs, nestK p.1 = true := fun p hp => by
  unfold dKeyOk famK at h
  rw [Bool.and_eq_true, List.all_eq_true] at h
  have := h.2 p hp
  rw [nest_flat hk, Bool.and_false, Bool.false_or, Bool.and_eq_true] at this
  exact this.1
theorem fam_one (h : dKeyOk kvs k = true) : flatK k = true ∨ nestK k = true := by
  unfold dKeyOk famK at h
  rw [Bool.and_eq_true, Bool.or_eq_true, Bool.and_eq_true, Bool.and_eq_true] at h
  exact h.1.imp (·.1) (·.1)
theorem keysN (ex : Ex I H) : ∀ {xs : List (NKey × Addr × Value)} {kvs : List (PV × PV)}, RepN G I xs kvs → KeysAt G.K H xs
  | _, _, .nil => nofun
  | _, _, @RepN.cons _ _ kk b u v p x xs gs h1 h2 h3 h4 r => fun y hy => by
    rcases List.mem_cons.mp hy with rfl | hy
    · have := (h2.mono ex).dp (noDict_key 8 _ (by rw [h1]; exact kk.2))
      rw [h1] at this
      exact this
    · exact keysN ex r y hy
theorem not_flat {d : HO} (r : RepK G I a d kvs) (hf : ∀ p ∈ kvs, flatK p.1 = true) : ∃ l, d = .dK l := by
  cases r with
  | nil => exact ⟨_, rfl⟩
  | cons _ _ => exact ⟨_, rfl⟩
  | nest ne r =>
    cases r with
    | nil => exact absurd rfl ne
    | cons hk hp _ _ _ =>
      have := hf _ List.mem_cons_self
      rw [rep_nest hp] at this
      cases this
theorem not_nest {d : HO} (r : RepK G I a d kvs) (hf : ∀ p ∈ kvs, nestK p.1 = true) : (kvs = [] ∧ d = .dK []) ∨ ∃ xs, d = dN G.w a xs ∧ RepN G I xs kvs := by
  cases r with
  | nil => exact .inl ⟨rfl, rfl⟩
  | cons _ _ =>
    have := nest_flat (hf _ List.mem_cons_self)
    rw [flat_pK] at this
    cases this
  | nest ne r => exact .inr ⟨_, rfl, r⟩
theorem flat_key {k : PV} (h : flatK k = true) : ∃ key, k = pK key := by
  cases k <;> first | exact ⟨.inl _, rfl⟩ | exact ⟨.inr _, rfl⟩ | cases h
theorem brep_key {key : Key} (h : BRep G I H x (pK key)) : x = kV key := by
  cases key
  · exact h.to_int
  · exact h.to_str
theorem look_of {p : Addr} {d : HO} (ex : Ex I H) (h : H p = some d) (r : RepK G I p d kvs) (ok : dKeyOk kvs k = true) (hx : BRep G I H x k) : ∃ o, DLook G.K G.w H p x o ∧ o.isSome = (dGet kvs k).isSome ∧ ∀ q, dGet kvs k = some q → ∃ v, o = some v ∧ Rep G I v q := by
  rcases fam_one ok with hk | hk
  · obtain ⟨key, rfl⟩ := flat_key hk
    obtain ⟨l, rfl⟩ := not_flat r (fam_flat ok hk)
    obtain ⟨h1, h2⟩ := look_flat r rfl key
    exact ⟨valV l key, .inl ⟨l, key, h, brep_key hx, rfl⟩, h1, h2⟩
  · have hd := nest_key hk
    have dp : Dp G.K H x (toD k) := (hx.now ex).dp (noDict_key 8 _ hd)
    obtain ⟨b, rfl⟩ : ∃ b, x = .ref b := by
      cases k with
      | tup ps => obtain ⟨b, vs, e, _⟩ := hx.to_tup ex; exact ⟨b, e⟩
      | _ => cases hk
    rcases not_nest r (fam_nest ok hk) with ⟨rfl, rfl⟩ | ⟨xs, rfl, rn⟩
    · exact ⟨none, .inr (.inl ⟨b, ⟨toD k, hd⟩, rfl, h, dp, rfl⟩), rfl, nofun⟩
    · rcases look_nest hd rn ⟨toD k, hd⟩ rfl with ⟨z1, z2⟩ | ⟨q, v, y, z1, z2, z3, z4⟩
      · exact ⟨none, .inr (.inr ⟨xs, b, ⟨toD k, hd⟩, rfl, h, dp, keysN ex rn, .inl ⟨z1, rfl⟩⟩), by rw [z2]; rfl, fun q e => by rw [z2] at e; cases e⟩
      · exact ⟨some v, .inr (.inr ⟨xs, b, ⟨toD k, hd⟩, rfl, h, dp, keysN ex rn, .inr ⟨q, v, z1, z2, rfl⟩⟩), by rw [z3]; rfl, fun q' e => by rw [z3] at e; cases e; exact ⟨v, rfl, z4⟩⟩
theorem flat_any : ∀ {d : HO} {kvs : List (PV × PV)}, RepK G I a d kvs → ∀ {l : List (Key × V)}, d = .dK l → ∀ key : Key, (l.any fun kv => decide (kv.1 = key)) = kvs.any fun p => decide (p.1 = pK key)
  | _, _, .nil, l, hd, key => by cases hd; rfl
  | _, _, @RepK.cons _ _ _ k v x kvs gs h r, l, hd, key => by
    cases hd
    rw [List.any_cons, List.any_cons, flat_any r rfl key]
    by_cases c : k = key
    · subst c; simp
    · have c' : ¬ pK k = pK key := fun e => c (pK_inj e)
      simp only [decide_eq_false c, decide_eq_false c']
  | _, _, .nest _ _, l, hd, _ => by unfold dN at hd; cases hd
theorem flat_map {v : V} {y : PV} (hv : Rep G I v y) : ∀ {d : HO} {kvs : List (PV × PV)}, RepK G I a d kvs → ∀ {l : List (Key × V)}, d = .dK l → ∀ key : Key, RepK G I a (.dK (l.map fun kv => if kv.1 = key then (kv.1, v) else kv)) (kvs.map fun p => if p.1 = pK key then (p.1, y) else p)
  | _, _, .nil, l, hd, key => by cases hd; exact .nil
  | _, _, @RepK.cons _ _ _ k u x kvs gs h r, l, hd, key => by
    cases hd
    rw [List.map_cons, List.map_cons]
    by_cases c : k = key
    · subst c
      rw [if_pos rfl, if_pos rfl]
      exact .cons hv (flat_map hv r rfl k)
    · rw [if_neg c, if_neg fun e => c (pK_inj e)]
      exact .cons h (flat_map hv r rfl key)
  | _, _, .nest _ _, l, hd, _ => by unfold dN at hd; cases hd
theorem flat_snoc {v : V} {y : PV} (hv : Rep G I v y) (key : Key) : ∀ {d : HO} {kvs : List (PV × PV)}, RepK G I a d kvs → ∀ {l : List (Key × V)}, d = .dK l → RepK G I a (.dK (l ++ [(key, v)])) (kvs ++ [(pK key, y)])
  | _, _, .nil, l, hd => by cases hd; exact .cons hv .nil
  | _, _, .cons h r, l, hd => by cases hd; exact .cons h (flat_snoc hv key r rfl)
  | _, _, .nest _ _, l, hd => by unfold dN at hd; cases hd
theorem flat_put {v : V} {y : PV} (hv : Rep G I v y) (key : Key) {kvs : List (PV × PV)} {l : List (Key × V)} (r : RepK G I a (.dK l) kvs) : RepK G I a (.dK (putK l key v)) (dPut kvs (pK key) y) := by
  unfold putK dPut
  rw [flat_any r rfl key]
  by_cases c : (kvs.any fun p => decide (p.1 = pK key)) = true
  · rw [if_pos c, if_pos c]; exact flat_map hv r rfl key
  · rw [if_neg c, if_neg c]; exact flat_snoc hv key r rfl
theorem nest_any {k : PV} (hk : keyOk 8 (toD k) = true) (d : NKey) (e : toD k = d.1) : ∀ {xs : List (NKey × Addr × Value)} {kvs : List (PV × PV)}, RepN G I xs kvs → (atKey xs d).isSome = kvs.any fun p => decide (p.1 = k)
  | _, _, .nil => rfl
  | _, _, @RepN.cons _ _ kk b u v p x xs gs h1 h2 h3 h4 r => by
    have ih := nest_any hk d e r
    unfold atKey at *
    rw [List.find?_cons, List.any_cons]
    by_cases c : kk = d
    · have c' : p = k := (toD_inj 8 k p hk (by rw [e, h1, c])).symm
      simp [c, c']
    · have c' : ¬ p = k := fun z => c (Subtype.ext (by rw [← h1, ← e, z]))
      simp only [decide_eq_false c, decide_eq_false c', Bool.false_or]
      exact ih
theorem nest_map {k : PV} (hk : keyOk 8 (toD k) = true) (d : NKey) (e : toD k = d.1) {v : V} {u : Value} {y : PV} (hu : RelV v u) (hv : Rep G I v y) : ∀ {xs : List (NKey × Addr × Value)} {kvs : List (PV × PV)}, RepN G I xs kvs → RepN G I (xs.map (putAt d u)) (kvs.map fun p => if p.1 = k then (p.1, y) else p)
  | _, _, .nil => .nil
  | _, _, @RepN.cons _ _ kk b u' v' p x xs gs h1 h2 h3 h4 r => by
    rw [List.map_cons, List.map_cons]
    unfold putAt
    by_cases c : kk = d
    · have c' : p = k := (toD_inj 8 k p hk (by rw [e, h1, c])).symm
      rw [if_pos c, if_pos c']
      exact .cons h1 h2 hu hv (nest_map hk d e hu hv r)
    · have c' : ¬ p = k := fun z => c (Subtype.ext (by rw [← h1, ← e, z]))
      rw [if_neg c, if_neg c']
      exact .cons h1 h2 h3 h4 (nest_map hk d e hu hv r)
theorem RepN.snoc {k : PV} {d : NKey} {b : Addr} {v : V} {u : Value} {y : PV} (e : toD k = d.1) (hb : Rep G I (.ref b) k) (hu : RelV v u) (hv : Rep G I v y) : ∀ {xs : List (NKey × Addr × Value)} {kvs : List (PV × PV)}, RepN G I xs kvs → RepN G I (xs ++ [(d, b, u)]) (kvs ++ [(k, y)])
  | _, _, .nil => .cons e hb hu hv .nil
  | _, _, .cons h1 h2 h3 h4 r => .cons h1 h2 h3 h4 (r.snoc e hb hu hv)
theorem RepN.length : ∀ {xs : List (NKey × Addr × Value)} {kvs : List (PV × PV)}, RepN G I xs kvs → xs.length = kvs.length
  | _, _, .nil => rfl
  | _, _, .cons _ _ _ _ r => congrArg Nat.succ r.length
theorem nest_put {k : PV} (hk : keyOk 8 (toD k) = true) {d : NKey} {b : Addr} (e : toD k = d.1) (hb : Rep G I (.ref b) k) {v : V} {u : Value} {y : PV} (hu : RelV v u) (hv : Rep G I v y) {xs : List (NKey × Addr × Value)} {kvs : List (PV × PV)} (r : RepN G I xs kvs) : RepN G I (storedH xs d b u) (dPut kvs k y) := by
  unfold storedH dPut
  rw [nest_any hk d e r]
  by_cases c : (kvs.any fun p => decide (p.1 = k)) = true
  · rw [if_pos c, if_pos c]; exact nest_map hk d e hu hv r
  · rw [if_neg c, if_neg c]; exact r.snoc e hb hu hv
theorem dPut_ne {k y : PV} : dPut kvs k y ≠ [] := by
  unfold dPut
  split
  · rename_i h
    cases kvs with
    | nil => cases h
    | cons p r => simp
  · simp
theorem flat_len : ∀ {d : HO} {kvs : List (PV × PV)}, RepK G I a d kvs → ∀ {l : List (Key × V)}, d = .dK l → l.length = kvs.length
  | _, _, .nil, l, hd => by cases hd; rfl
  | _, _, .cons h r, l, hd => by cases hd; exact congrArg Nat.succ (flat_len r rfl)
  | _, _, .nest _ _, l, hd => by unfold dN at hd; cases hd
theorem BRep.key (h : BRep G I H x k) (ok : dKeyOk kvs k = true) : Rep G I x k := by
  cases h with
  | imm h => exact h
  | _ => exact absurd (fam_one ok) (by simp [flatK, nestK])
theorem put_of {p : Addr} {d : HO} {v : V} {y : PV} (ex : Ex I H) (h : H p = some d) (r : RepK G I p d kvs) (ok : dKeyOk kvs k = true) (hl : kvs.length < sizeLine) (hx : BRep G I H x k) (hv : Rep G I v y) {Q : Hp → Prop}
    (q : ∀ d', RepK G I p d' (dPut kvs k y) → Q (upd H p d')) : DStore G.K G.w H p x v Q := by
  rcases fam_one ok with hk | hk
  · obtain ⟨key, rfl⟩ := flat_key hk
    obtain ⟨l, rfl⟩ := not_flat r (fam_flat ok hk)
    exact .inl ⟨l, key, h, brep_key hx, by rw [flat_len r rfl]; exact hl, q _ (flat_put hv key r)⟩
  · have hd := nest_key hk
    have dp : Dp G.K H x (toD k) := (hx.now ex).dp (noDict_key 8 _ hd)
    obtain ⟨b, rfl, hb⟩ : ∃ b, x = .ref b ∧ Rep G I (.ref b) k := by
      cases k with
      | tup ps =>
        obtain ⟨b, vs, e, _⟩ := hx.to_tup ex
        subst e
        cases hx with
        | imm h => exact ⟨b, rfl, h⟩
      | _ => cases hk
    rcases not_nest r (fam_nest ok hk) with ⟨rfl, rfl⟩ | ⟨xs, rfl, rn⟩
    · exact .inr (.inl ⟨b, ⟨toD k, hd⟩, rfl, h, dp, fun u hu => q _ (.nest (by simp [dPut]) (.cons rfl hb hu hv .nil))⟩)
    · exact .inr (.inr ⟨xs, b, ⟨toD k, hd⟩, rfl, h, dp, keysN ex rn, by rw [rn.length]; exact hl, fun u hu => q _ (.nest dPut_ne (nest_put hd rfl hb hu hv rn))⟩)
end
end RF
set_option maxHeartbeats 1000000
namespace RF
open PySem PySem.Spec PyProof.Rows L2 Evl
section
variable {X : Cx}
def rMulS : R2 := rI CMul fun i j => .int (i * j)
def rBin (K : PySem.W.Frag) : P2 → R2
  | .add => fun x y H Q => rI0 (fun i j => .int (i + j)) x y H Q ∨ (rCatA K x y H Q ∨ rCat x y H Q)
  | .sub => rI0 fun i j => .int (i - j)
  | .mul => rMulS
  | .mod => rI (fun _ j => 0 < j) fun i j => .int (i % j)
  | .fdiv => rI CDiv fun i j => .int (i / j)
  | _ => fun _ _ _ _ => False
def binOf : P2 → Option Operator
  | .add => some .Add
  | .sub => some .Sub
  | .mul => some .Mult
  | .mod => some .Mod
  | .fdiv => some .FloorDiv
  | _ => none
theorem op_bin {p : P2} {o : Operator} (h : binOf p = some o) : OpR X (binaryOp o) (rBin X.K p) := by
  cases p <;> cases h
  · exact op_add.or (op_catA.or op_cat)
  · exact op_sub
  · exact op_mul
  · exact op_mod
  · exact op_fdiv
def rOrd (K : PySem.W.Frag) (p : Int → Int → Bool) (k : PyData → PyData → Bool) : R2 := fun x y H Q => (∃ i j, x = .int i ∧ y = .int j ∧ Q (.bl (p i j)) H) ∨
  ∃ d e, Dp K H x d ∧ Dp K H y e ∧ PySem.W.alike d e = true ∧ d ≠ .none ∧ d.depth ≤ 60 ∧ Q (.bl (k d e)) H
def rInS (K : PySem.W.Frag) (f : Bool → Bool) : R2 := fun x y H Q => ∃ d ds, Dp K H x d ∧ (Dp K H y (.list ds) ∨ Dp K H y (.tuple ds)) ∧ SeqAt.shaped d = true ∧ PyData.canLayAll0 ds = true ∧ Q (.bl (f (ds.any fun z => PyData.eqv z d))) H
theorem op_ord {op : CmpOp} {p : Int → Int → Bool} {k : PyData → PyData → Bool} (hu : X.A.units + 70 < cLine) (h1 : OpR X (compareOp op) (rI0 fun i j => .bl (p i j)))
    (h2 : ∀ {s : Shared} {a b : Value} {da db : PyData} {as bs : List Addr} {Q : Value → Shared → Prop}, Reads s.heap a da as → Reads s.heap b db bs → PySem.W.alike da db = true → da ≠ .none → X.A.units + min da.depth db.depth < cLine → Q (.bool (k da db)) s →
      wpAny (model X.prog X.w) X.A (compareOp op a b) Q X.xe s) : OpR X (compareOp op) (rOrd X.K p k) := by
  refine h1.or ?_
  intro pins s σ H x y v u Q I rx ry h
  obtain ⟨d, e, hd, he, hal, hn, hdep, q⟩ := h
  obtain ⟨as, r1⟩ := Dp.reads I d x v hd rx
  obtain ⟨bs, r2⟩ := Dp.reads I e y u he ry
  exact h2 r1 r2 hal hn (by have := Nat.min_le_left d.depth e.depth; omega) ⟨.bl _, H, I, rfl, q⟩
theorem op_inS (hu : X.A.units + 70 < cLine) : OpR X (compareOp .In) (rInS X.K fun b => b) := by
  intro pins s σ H x y v u Q I rx ry h
  obtain ⟨d, ds, hd, hy, sd, se, q⟩ := h
  obtain ⟨as, r1⟩ := Dp.reads I d x v hd rx
  rcases hy with hy | hy
  · obtain ⟨bs, r2⟩ := Dp.reads I (.list ds) y u hy ry
    exact SeqAt.in_list_reads r2 r1 se (SeqAt.canLay_of_shaped sd) (room_in_shaped sd (by omega)) ⟨.bl _, H, I, rfl, q⟩
  · obtain ⟨bs, r2⟩ := Dp.reads I (.tuple ds) y u hy ry
    exact SeqAt.in_tuple_reads r2 r1 se (SeqAt.canLay_of_shaped sd) (room_in_shaped sd (by omega)) ⟨.bl _, H, I, rfl, q⟩
theorem op_notInS (hu : X.A.units + 70 < cLine) : OpR X (compareOp .NotIn) (rInS X.K fun b => !b) := by
  intro pins s σ H x y v u Q I rx ry h
  obtain ⟨d, ds, hd, hy, sd, se, q⟩ := h
  obtain ⟨as, r1⟩ := Dp.reads I d x v hd rx
  rcases hy with hy | hy
  · obtain ⟨bs, r2⟩ := Dp.reads I (.list ds) y u hy ry
    exact SeqAt.notIn_list_reads r2 r1 se (SeqAt.canLay_of_shaped sd) (room_in_shaped sd (by omega)) ⟨.bl _, H, I, rfl, q⟩
  · obtain ⟨bs, r2⟩ := Dp.reads I (.tuple ds) y u hy ry
    exact SeqAt.notIn_tuple_reads r2 r1 se (SeqAt.canLay_of_shaped sd) (room_in_shaped sd (by omega)) ⟨.bl _, H, I, rfl, q⟩
def rCmp (K : PySem.W.Frag) (w : World) : P2 → R2
  | .eq => rEqD K
  | .ne => rNeD K
  | .lt => rOrd K (fun i j => decide (i < j)) fun d e => PySem.W.dataLt d e
  | .le => rOrd K (fun i j => decide (i ≤ j)) fun d e => !PySem.W.dataLt e d
  | .gt => rOrd K (fun i j => decide (j < i)) fun d e => PySem.W.dataLt e d
  | .ge => rOrd K (fun i j => decide (j ≤ i)) fun d e => !PySem.W.dataLt d e
  | .isIn => fun x y H Q => rInS K (fun b => b) x y H Q ∨ rDIn K w (fun b => b) x y H Q
  | .notIn => fun x y H Q => rInS K (fun b => !b) x y H Q ∨ rDIn K w (fun b => !b) x y H Q
  | _ => fun _ _ _ _ => False
def cmpOf : P2 → Option CmpOp
  | .eq => some .Eq
  | .ne => some .NotEq
  | .lt => some .Lt
  | .le => some .LtE
  | .gt => some .Gt
  | .ge => some .GtE
  | .isIn => some .In
  | .notIn => some .NotIn
  | _ => none
theorem op_cmp (hu : X.A.units + 70 < cLine) {p : P2} {o : CmpOp} (h : cmpOf p = some o) : OpR X (compareOp o) (rCmp X.K X.w p) := by
  cases p <;> cases h
  · exact op_eqD (by omega)
  · exact op_neD (by omega)
  · exact op_ord hu op_lt fun r1 r2 a b c q => PySem.W.lt_data r1 r2 a b c q
  · exact op_ord hu op_le fun r1 r2 a b c q => PySem.W.le_data r1 r2 a b c q
  · exact op_ord hu op_gt fun r1 r2 a b c q => PySem.W.gt_data r1 r2 a b c q
  · exact op_ord hu op_ge fun r1 r2 a b c q => PySem.W.ge_data r1 r2 a b c q
  · exact (op_inS hu).or (op_dIn hu)
  · exact (op_notInS hu).or (op_dNotIn hu)
end
section
variable {G : Gr} {I H : Hp} {x y : V} {a b : PV} {s : Slot} {Q : VK}
theorem toDs_any (xs : List PV) (f : PyData → Bool) : (toDs xs).any f = xs.any fun x => f (toD x) := by rw [toDs_map, List.any_map]; rfl
theorem canLay_all : ∀ {xs : List PV}, xs.all okD = true → PyData.canLayAll0 (toDs xs) = true
  | [], _ => by rw [toDs, PyData.canLayAll0]
  | x :: r, h => by
    rw [List.all_cons, Bool.and_eq_true] at h
    rw [toDs, PyData.canLayAll0, SeqAt.canLay_of_shaped h.1, canLay_all h.2]; rfl
theorem val_cmpv {p : Int → Int → Bool} {k : PyData → PyData → Bool} (ex : Ex I H) (q : cmpv p k a b = some s) (ha : BRep G I H x a) (hb : BRep G I H y b) (f : Fin G I H s Q) : rOrd G.K p k x y H Q := by
  have gen : (if cmpOk a b then some (Slot.val (.bl (k (toD a) (toD b)))) else none) = some s → rOrd G.K p k x y H Q := fun q => by
    by_cases c : cmpOk a b = true
    · rw [if_pos c] at q
      cases q
      refine .inr ⟨toD a, toD b, ?_⟩
      have c' := c
      unfold cmpOk at c'
      simp only [Bool.and_eq_true] at c'
      obtain ⟨⟨⟨⟨c1, c2⟩, c3⟩, c4⟩, c5⟩ := c'
      refine ⟨(ha.now ex).dp (noDict_self _ c2), (hb.now ex).dp (noDict_self _ c3), c1, ?_, of_decide_eq_true c4, f.val ex (.bl _)⟩
      intro z
      cases a <;> simp [toD] at z
      cases c5
    · rw [if_neg c] at q
      cases q
  cases a with
  | int i =>
    cases b with
    | int j =>
      cases q
      exact .inl ⟨i, j, ha.to_int, hb.to_int, f.val ex (.bl _)⟩
    | _ => exact gen q
  | _ => exact gen q
theorem val_in {g : Bool → Bool} {ps : List PV} (ex : Ex I H) (q : (if okD a && ps.all okD then some (Slot.val (.bl (g (ps.any fun x => eqv x a)))) else none) = some s) (ha : BRep G I H x a) (hb : (∃ a vs, y = .ref a ∧ SqT G.K H a vs ∧ RepL G I vs ps) ∨ ∃ a vs, y = .ref a ∧ H a = some (.lst vs) ∧ RepL G I vs ps)
    (f : Fin G I H s Q) : rInS G.K g x y H Q := by
  by_cases c : (okD a && ps.all okD) = true
  · rw [if_pos c] at q
    cases q
    rw [Bool.and_eq_true] at c
    have lay := canLay_all c.2
    refine ⟨toD a, toDs ps, (ha.now ex).dp (okD_no c.1), ?_, c.1, lay, ?_⟩
    · rcases hb with ⟨p, vs, rfl, h, r⟩ | ⟨p, vs, rfl, h, r⟩
      · exact .inr (.tup h ((r.mono ex).dp (noDicts_lay _ lay)))
      · exact .inl (.lst (.inl (.inl h)) ((r.mono ex).dp (noDicts_lay _ lay)))
    · rw [toDs_any]
      exact f.val ex (.bl _)
  · rw [if_neg c] at q
    cases q
theorem BRep.to_dic {kvs : List (PV × PV)} (h : BRep G I H x (.dic kvs)) (ex : Ex I H) : ∃ a d, x = .ref a ∧ H a = some d ∧ RepK G I a d kvs := by
  cases h with
  | imm h => cases h with | dic h r => exact ⟨_, _, rfl, ex _ _ h, r⟩
  | dic h r => exact ⟨_, _, rfl, h, r⟩
theorem val_din {g : Bool → Bool} {kvs : List (PV × PV)} (ex : Ex I H) (q : (if dKeyOk kvs a then some (Slot.val (.bl (g (dGet kvs a).isSome))) else none) = some s) (ha : BRep G I H x a) (hb : BRep G I H y (.dic kvs)) (f : Fin G I H s Q) : rDIn G.K G.w g x y H Q := by
  by_cases c : dKeyOk kvs a = true
  · rw [if_pos c] at q
    cases q
    obtain ⟨p, d, rfl, h, r⟩ := hb.to_dic ex
    obtain ⟨o, hl, ho, _⟩ := look_of ex h r c ha
    exact ⟨p, o, rfl, hl, by rw [ho]; exact f.val ex (.bl _)⟩
  · rw [if_neg c] at q
    cases q
theorem val_cmp {p : P2} {o : CmpOp} (hp : cmpOf p = some o) (ex : Ex I H) (q : op2 p a b = some s) (ha : BRep G I H x a) (hb : BRep G I H y b) (f : Fin G I H s Q) : rCmp G.K G.w p x y H Q := by
  have two : ∀ {c : Bool} {t : Slot}, (if okD a && okD b then some t else none) = some s → okD a = true ∧ okD b = true ∧ t = s := fun {c t} h => by
    by_cases z : (okD a && okD b) = true
    · rw [if_pos z] at h; cases h
      rw [Bool.and_eq_true] at z
      exact ⟨z.1, z.2, rfl⟩
    · rw [if_neg z] at h; cases h
  cases p <;> cases hp
  · obtain ⟨h1, h2, rfl⟩ := two (c := true) (show (if okD a && okD b then some (Slot.val (.bl (eqv a b))) else none) = some s by cases a <;> exact q)
    exact ⟨_, _, (ha.now ex).dp (okD_no h1), (hb.now ex).dp (okD_no h2), h1, h2, f.val ex (.bl _)⟩
  · obtain ⟨h1, h2, rfl⟩ := two (c := true) (show (if okD a && okD b then some (Slot.val (.bl (!eqv a b))) else none) = some s by cases a <;> exact q)
    exact ⟨_, _, (ha.now ex).dp (okD_no h1), (hb.now ex).dp (okD_no h2), h1, h2, f.val ex (.bl _)⟩
  · exact val_cmpv ex (show cmpv _ _ a b = some s by cases a <;> exact q) ha hb f
  · exact val_cmpv ex (show cmpv _ _ a b = some s by cases a <;> exact q) ha hb f
  · exact val_cmpv ex (show cmpv _ _ a b = some s by cases a <;> exact q) ha hb f
  · exact val_cmpv ex (show cmpv _ _ a b = some s by cases a <;> exact q) ha hb f
  · cases b with
    | tup ps =>
      obtain ⟨p, vs, e, _, h, r⟩ := hb.to_tup ex
      exact .inl (val_in (g := fun b => b) ex (by cases a <;> exact q) ha (.inl ⟨p, vs, e, h, r⟩) f)
    | lst ps =>
      obtain ⟨p, vs, e, h, r⟩ := hb.to_lst ex
      exact .inl (val_in (g := fun b => b) ex (by cases a <;> exact q) ha (.inr ⟨p, vs, e, h, r⟩) f)
    | dic kvs => exact .inr (val_din (g := fun b => b) ex (by cases a <;> exact q) ha hb f)
    | _ => cases a <;> cases q
  · cases b with
    | tup ps =>
      obtain ⟨p, vs, e, _, h, r⟩ := hb.to_tup ex
      exact .inl (val_in (g := fun b => !b) ex (by cases a <;> exact q) ha (.inl ⟨p, vs, e, h, r⟩) f)
    | lst ps =>
      obtain ⟨p, vs, e, h, r⟩ := hb.to_lst ex
      exact .inl (val_in (g := fun b => !b) ex (by cases a <;> exact q) ha (.inr ⟨p, vs, e, h, r⟩) f)
    | dic kvs => exact .inr (val_din (g := fun b => !b) ex (by cases a <;> exact q) ha hb f)
    | _ => cases a <;> cases q
theorem val_bin {p : P2} {o : Operator} (hp : binOf p = some o) (ex : Ex I H) (q : op2 p a b = some s) (ha : BRep G I H x a) (hb : BRep G I H y b) (f : Fin G I H s Q) : rBin G.K p x y H Q := by
  cases p <;> cases hp
  · cases a with
    | int i =>
      cases b with
      | int j =>
        cases q
        exact .inl ⟨i, j, ha.to_int, hb.to_int, f.val ex (.int _)⟩
      | _ => cases q
    | tup ps =>
      cases b with
      | tup ps2 =>
        obtain ⟨p, vs, rfl, hi, h, r⟩ := ha.to_tup ex
        obtain ⟨p2, vs2, rfl, hi2, h2, r2⟩ := hb.to_tup ex
        have q' : (if ps.length + ps2.length ≤ lim then some (Slot.val (.tup (ps ++ ps2))) else none) = some s := q
        by_cases c : ps.length + ps2.length ≤ lim
        · rw [if_pos c] at q'
          cases q'
          refine .inr (.inl ⟨p, p2, vs, vs2, rfl, rfl, h, h2, ?_, fun e => ?_, fun _ e => ?_, fun _ _ a ha => f.tup ex (r.append r2) ha⟩)
          · rw [r.length, r2.length]; exact Nat.le_trans c lim_le
          · subst e
            cases r
            exact f.val ex (.tup hi2 r2)
          · subst e
            cases r2
            rw [List.append_nil] at f
            exact f.val ex (.tup hi r)
        · rw [if_neg c] at q'; cases q'
      | _ => cases q
    | lst ps =>
      cases b with
      | lst ps2 =>
        obtain ⟨p, vs, rfl, h, r⟩ := ha.to_lst ex
        obtain ⟨p2, vs2, rfl, h2, r2⟩ := hb.to_lst ex
        have q' : (if ps.length + ps2.length ≤ lim then some (Slot.olst (ps ++ ps2)) else none) = some s := q
        by_cases c : ps.length + ps2.length ≤ lim
        · rw [if_pos c] at q'
          cases q'
          refine .inr (.inr ⟨p, p2, vs, vs2, rfl, rfl, h, h2, ?_, fun a ha => f.lst ex (r.append r2) ha⟩)
          rw [r.length, r2.length]; exact Nat.le_trans c lim_le
        · rw [if_neg c] at q'; cases q'
      | _ => cases q
    | _ => cases q
  · cases a with
    | int i =>
      cases b with
      | int j =>
        cases q
        exact ⟨i, j, ha.to_int, hb.to_int, f.val ex (.int _)⟩
      | _ => cases q
    | _ => cases q
  · cases a with
    | int i =>
      cases b with
      | int j =>
        have q' : (if (-(2 ^ 64) < i ∧ i < 2 ^ 64) ∨ (-(2 ^ 64) < j ∧ j < 2 ^ 64) then some (Slot.val (.int (i * j))) else none) = some s := q
        by_cases c : (-(2 ^ 64) < i ∧ i < 2 ^ 64) ∨ (-(2 ^ 64) < j ∧ j < 2 ^ 64)
        · rw [if_pos c] at q'
          cases q'
          exact ⟨i, j, ha.to_int, hb.to_int, c, f.val ex (.int _)⟩
        · rw [if_neg c] at q'; cases q'
      | _ => cases q
    | _ => cases q
  · cases a with
    | int i =>
      cases b with
      | int j =>
        have q' : (if 0 < j then some (Slot.val (.int (i % j))) else none) = some s := q
        by_cases c : 0 < j
        · rw [if_pos c] at q'
          cases q'
          exact ⟨i, j, ha.to_int, hb.to_int, c, f.val ex (.int _)⟩
        · rw [if_neg c] at q'; cases q'
      | _ => cases q
    | _ => cases q
  · cases a with
    | int i =>
      cases b with
      | int j =>
        have q' : (if 0 < j ∧ j < 1073741824 then some (Slot.val (.int (i / j))) else none) = some s := q
        by_cases c : 0 < j ∧ j < 1073741824
        · rw [if_pos c] at q'
          cases q'
          exact ⟨i, j, ha.to_int, hb.to_int, c, f.val ex (.int _)⟩
        · rw [if_neg c] at q'; cases q'
      | _ => cases q
    | _ => cases q
end
end RF
set_option maxHeartbeats 1000000
namespace RF
open PySem PySem.Spec PyProof.Rows L2 Evl
theorem each_imp' {α β : Type} {R R' : α → β → Prop} {xs : List α} {ys : List β} (e : PySem.W.EachIs R xs ys) (h : ∀ x y, R x y → R' x y) : PySem.W.EachIs R' xs ys := by
  induction e with
  | nil => exact .nil
  | cons a b ih => exact .cons (h _ _ a) ih
theorem each_len {α β : Type} {R : α → β → Prop} {xs : List α} {ys : List β} (e : PySem.W.EachIs R xs ys) : xs.length = ys.length := by
  induction e with
  | nil => rfl
  | cons a b ih => exact congrArg Nat.succ ih
theorem sorted_tup {prog : Program} {w : World} {A : Around} {E : Value → Shared → Prop} {s : Shared} {β : Type} {vs : List Value} {bs : List β} {enc : β → PyData} {R : Value → β → Prop} {l : Addr} {Q : Value → Shared → Prop}
    (ht : IsTup s.heap l vs.toArray) (e : PySem.W.EachIs R vs bs) (r : PySem.W.EachIs (fun v b => ∃ as, Reads s.heap v (enc b) as) vs bs) (hal : PySem.W.AllAlike (bs.map enc)) (hk : PySem.W.Sortable (bs.map enc)) (hz : bs.length ≤ sizeLine) (hd : ∀ b ∈ bs, A.units + 2 + (enc b).depth < cLine)
    (q : ∀ (h1 h' : Heap) (out : List Value), (∀ b o, s.heap.get? b = some o → h1.get? b = some o) → (∀ b o, h1.get? b = some o → h'.get? b = some o) → (∃ n, h'.get? h1.objs.size = some (seqObj "list" out.toArray n)) → out.length = bs.length → PySem.W.EachIs R out (bs.mergeSort (PySem.W.dataLe false enc)) → Q (.ref h1.objs.size) { s with heap := h' }) :
    wpAny (model prog w) A (call (.builtin "sorted") [.ref l]) Q E s := by
  obtain ⟨o, ho, hc, n, hdt⟩ := ht
  have hl := each_len e
  refine PySem.Calls.call_function_entry kind_sorted plain_sorted entry_sorted (args_sorted1 _) ?_
  show wpAny _ _ (collect (.ref l) >>= _) _ _ s
  refine wpAny_bind (wpAny_collect_seq l (.inr rfl) ho hc hdt (fun h' keep => ?_) (by rw [List.size_toArray, hl]; exact hz))
  refine wpAny_bind (wpAny_newList ?_ (by rw [hl]; exact hz))
  refine wpAny_bind (wpAny_holding ?_)
  have k2 : ∀ b u, s.heap.get? b = some u → (h'.push { cls := .type "list", data := .seq vs.toArray }).get? b = some u := fun b u q => Heap.get?_push_of_some _ (keep b u q)
  refine PySem.W.list_sort_data (R := R) (enc := enc) (bs := bs) (vs := vs) (n := 0) (Heap.get?_push_size _ rfl) e (each_imp' r fun v b ⟨as, h⟩ => ⟨as, PyProof.Rows.Reads.keeps k2 h, fun hm => ?_⟩) hal hk hz (fun b hb => ?_) fun out ho eo => ?_
  · obtain ⟨u, hu⟩ := PyProof.On.reads_mem_get h _ hm
    have hu := keep _ _ hu
    have := Heap.lt_size hu
    exact absurd this (Nat.lt_irrefl _)
  · have := hd b hb
    show A.units + 1 + 1 + _ < _
    omega
  · refine wpAny_pure ⟨_, rfl, ?_⟩
    refine q h' _ out keep (fun b u z => ?_) ?_ ho eo
    · have := Heap.lt_size z
      rw [sortedHeap_old (Nat.ne_of_lt this) (by rw [Heap.size_push]; exact Nat.lt_succ_of_lt this)]
      exact Heap.get?_push_of_some _ z
    · exact sortedHeap_at (Heap.get?_push_size _ rfl)
def bsK (b : V × PV) : PyData := toD b.2
def rSortP (K : PySem.W.Frag) : List V → Hp → VK → Prop := fun vs H Q => ∃ (a : Addr) (bs : List (V × PV)), vs = [V.ref a] ∧ (SqL K H a (bs.map (·.1)) ∨ SqT K H a (bs.map (·.1))) ∧ (∀ b ∈ bs, Dp K H b.1 (toD b.2)) ∧
  PySem.W.AllAlike (bs.map bsK) ∧ PySem.W.Sortable (bs.map bsK) ∧ (∀ b ∈ bs, (toD b.2).depth ≤ 60) ∧
  ∀ p, H p = none → Q (.ref p) (upd H p (.lst ((bs.mergeSort (PySem.W.dataLe false bsK)).map (·.1))))
theorem vals_each {bs : List (V × PV)} : ∀ {us : List Value}, Vals (bs.map (·.1)) us → PySem.W.EachIs (fun u (b : V × PV) => RelV b.1 u) us bs := by
  induction bs with
  | nil => intro us r; cases r; exact .nil
  | cons b bs ih =>
    intro us r
    cases r with
    | cons h t => exact .cons h (ih t)
theorem each_vals {bs : List (V × PV)} : ∀ {us : List Value}, PySem.W.EachIs (fun u (b : V × PV) => RelV b.1 u) us bs → Vals (bs.map (·.1)) us := by
  induction bs with
  | nil => intro us r; cases r; exact .nil
  | cons b bs ih =>
    intro us r
    cases r with
    | cons h t => exact .cons h (ih t)
theorem each_imp {α β : Type} {R R' : α → β → Prop} {xs : List α} {ys : List β} (e : PySem.W.EachIs R xs ys) (h : ∀ x y, y ∈ ys → R x y → R' x y) : PySem.W.EachIs R' xs ys := by
  induction e with
  | nil => exact .nil
  | cons a b ih => exact .cons (h _ _ List.mem_cons_self a) (ih fun x y m => h x y (List.mem_cons_of_mem _ m))
theorem cr_sortP {X : Cx} (hu : X.A.units + 70 < cLine) : CallR X (.builtin "sorted") (rSortP X.K) := by
  intro pins s σ H vs us Q I r h
  obtain ⟨a, bs, rfl, hs, hd, hal, hk, hdep, q⟩ := h
  rw [Vals.ref1 r]
  rcases hs with hs | hs
  case inr =>
    obtain ⟨its, rv, hl, hz⟩ := I.tuple hs
    rw [List.length_map] at hz
    have e := vals_each rv
    refine sorted_tup (R := fun u (b : V × PV) => RelV b.1 u) (enc := bsK) hl e (each_imp e fun u b hb h => Dp.reads I _ _ _ (hd b hb) h) hal hk hz (fun b hb => ?_) fun h1 h' out k1 k2 he ho eo => ?_
    · have := hdep b hb
      show X.A.units + 2 + (toD b.2).depth < cLine
      omega
    · obtain ⟨ep, he'⟩ := he
      have hlen : ((bs.mergeSort (PySem.W.dataLe false bsK)).map (·.1)).length ≤ sizeLine := by rw [List.length_map, (List.mergeSort_perm _ _).length_eq]; exact hz
      have I1 := I.kept (t' := s.toks) k1
      exact ⟨.ref _, upd H h1.objs.size (.lst ((bs.mergeSort (PySem.W.dataLe false bsK)).map (·.1))), I1.laid (t' := s.toks) k2 (Nat.le_refl _) ⟨hlen, out, ep, each_vals eo, he'⟩, rfl, q _ (I1.hok.fresh (Nat.le_refl _))⟩
  obtain ⟨its, rv, hl, hz⟩ := I.list hs
  rw [List.length_map] at hz
  have e := vals_each rv
  refine PySem.W.sorted_data (R := fun u (b : V × PV) => RelV b.1 u) (enc := bsK) hl.isList e (each_imp e fun u b hb h => Dp.reads I _ _ _ (hd b hb) h) hal hk hz (fun b hb => ?_) fun out ho eo => ?_
  · have := hdep b hb
    show X.A.units + 2 + (toD b.2).depth < cLine
    omega
  · obtain ⟨ep, he'⟩ := PyProof.Rows.sortedAll_at s.heap its out.toArray
    have hlen : ((bs.mergeSort (PySem.W.dataLe false bsK)).map (·.1)).length ≤ sizeLine := by rw [List.length_map, (List.mergeSort_perm _ _).length_eq]; exact hz
    exact ⟨.ref _, upd H (s.heap.objs.size + 1) (.lst ((bs.mergeSort (PySem.W.dataLe false bsK)).map (·.1))), I.laid (t' := s.toks) (fun _ _ => PyProof.Rows.sortedAll_old) (Nat.le_succ _) ⟨hlen, out, ep, each_vals eo, he'⟩, rfl, q _ (I.hok.fresh (Nat.le_succ _))⟩
def KRow (H : Hp) (a : Addr) (xs : List V) : Prop := (∃ kvs : List (Key × V), H a = some (.dK kvs) ∧ xs = kvs.map fun kv => kV kv.1) ∨ ∃ (w : World) (ys : List (NKey × Addr × Value)), H a = some (dN w a ys) ∧ xs = ys.map fun y => V.ref y.2.1
theorem src_raw {prog : Program} {w : World} {d : Addr} {es : Array DictEntry} {ep : Nat} (lo : (d == sysModules) = false) : PySem.W.KdlSrc prog w "dict" d d es.size (fun i v => ∃ hi : i < es.size, v = es[i].key) (fun h => h.DictRaw d es ep) where
  type := fun _ hm => hm.typeIs
  there := fun _ hm => let ⟨_, ho, _⟩ := hm; ⟨Heap.lt_size ho, Heap.lt_size ho⟩
  keep := fun _ _ hm hk => hm.at fun o e => hk d (.inl rfl) o e
  notList := by decide
  notTuple := by decide
  hint := fun _ _ _ _ hm hq => PySem.W.kdl_hint_dict hm.typeIs hq
  iter := fun _ s hh hm => ⟨_, _, (fun _ _ hq => wpAny_pyIter_dict_raw lo hm hq), Walks.rawKeys hh _ d (let ⟨_, ho, _⟩ := hm; Nat.ne_of_lt (Heap.lt_size ho)) es ep, ⟨⟨_, Heap.get?_push_size _ rfl, rfl, rfl⟩, hm.at fun _ e => Heap.get?_push_of_some _ e⟩⟩
theorem items_row {es : Array DictEntry} {acc : Array Value} (h : ItemsOf (fun i v => ∃ hi : i < es.size, v = es[i].key) acc es.size) : acc.toList = es.toList.map (·.key) := by
  refine List.ext_getElem? fun i => ?_
  rw [List.getElem?_map, Array.getElem?_toList, Array.getElem?_toList]
  by_cases c : i < es.size
  · have hi : i < acc.size := by rw [h.1]; exact c
    obtain ⟨hj, e⟩ := h.2 i acc[i] (Array.getElem?_eq_getElem hi)
    rw [Array.getElem?_eq_getElem hi, Array.getElem?_eq_getElem c, e]; rfl
  · rw [Array.getElem?_eq_none (by rw [h.1]; omega), Array.getElem?_eq_none (by omega)]; rfl
section
variable {X : Cx} {pins : List (Addr × Obj)} {σ : L2.St} {H : Hp} {s : Shared} {a : Addr} {xs : List V}
theorem krow_raw (I : Inv X pins σ H s) (h : KRow H a xs) : (a == sysModules) = false ∧ ∃ es ep, s.heap.DictRaw a es ep ∧ xs.length ≤ sizeLine ∧ Vals xs (es.toList.map (·.key)) := by
  rcases h with ⟨kvs, h, rfl⟩ | ⟨w, ys, h, rfl⟩
  · obtain ⟨z, lo, vs, rel, dd⟩ := dk_rd I.hok (.inl h)
    obtain ⟨es, ep, hr, hs, hk⟩ := dd.raw
    have ek : (kvs.map fun kv => kV kv.1) = vs.map fun p => kV p.1 := by
      have e := congrArg (List.map kV) rel.keys
      rw [List.map_map, List.map_map] at e
      exact e
    refine ⟨lo, es, ep, hr, by rw [List.length_map]; exact z, ?_⟩
    rw [ek]
    refine keys_at (by simp [hs]) fun j v e => ?_
    rw [List.getElem?_map, Array.getElem?_toList] at e
    by_cases c : j < es.size
    · rw [Array.getElem?_eq_getElem c] at e
      cases e
      have cv : j < vs.length := by rw [← hs]; exact c
      have := (hk j c vs[j].1 vs[j].2 (List.getElem?_eq_getElem cv)).1
      exact ⟨_, _, List.getElem?_eq_getElem cv, this⟩
    · rw [Array.getElem?_eq_none (by omega)] at e
      cases e
  · obtain ⟨⟨lo, hl, _, o, es, ep, ho, hx, hd, he⟩, _⟩ := I.hok a _ h
    refine ⟨lo, es, ep, ⟨o, ho, hx, hd⟩, by rw [List.length_map]; exact hl, ?_⟩
    rw [he, List.map_map]
    clear ho hx hd he hl
    rename_i h1 h2
    clear h1 h2 h
    induction ys with
    | nil => exact .nil
    | cons y ys ih => exact .cons rfl ih
theorem sorted_raw {prog : Program} {w : World} {A : Around} {E : Value → Shared → Prop} {s : Shared} {β : Type} {es : Array DictEntry} {ep : Nat} {bs : List β} {enc : β → PyData} {R : Value → β → Prop} {d : Addr} {Q : Value → Shared → Prop} (lo : (d == sysModules) = false) (hh : A.handled = none)
    (hm : s.heap.DictRaw d es ep) (e : PySem.W.EachIs R (es.toList.map (·.key)) bs) (r : PySem.W.EachIs (fun v b => ∃ as, Reads s.heap v (enc b) as) (es.toList.map (·.key)) bs) (hal : PySem.W.AllAlike (bs.map enc)) (hk : PySem.W.Sortable (bs.map enc)) (hz : bs.length ≤ sizeLine) (hd : ∀ b ∈ bs, A.units + 2 + (enc b).depth < cLine)
    (q : ∀ (h1 h' : Heap) (tk : Nat) (out : List Value), (∀ b o, s.heap.get? b = some o → h1.get? b = some o) → (∀ b o, h1.get? b = some o → h'.get? b = some o) → (∃ n, h'.get? h1.objs.size = some (seqObj "list" out.toArray n)) → out.length = bs.length → PySem.W.EachIs R out (bs.mergeSort (PySem.W.dataLe false enc)) → Q (.ref h1.objs.size) { s with heap := h', toks := tk }) :
    wpAny (model prog w) A (call (.builtin "sorted") [.ref d]) Q E s := by
  have hl := each_len e
  have hes : es.size = bs.length := by rw [← hl]; simp
  refine PySem.Calls.call_function_entry kind_sorted plain_sorted entry_sorted (args_sorted1 _) ?_
  unfold Builtin.«sorted»
  refine wpAny_bind (m := checkCount "sorted" 1 1 _) (wpAny_pure ?_)
  refine wpAny_bind (PySem.W.kdu_collect (A := A.in1) (src_raw (ep := ep) lo) hh hm (by rw [hes]; exact hz) fun h' tk acc keep hacc => ?_)
  have ha := items_row hacc
  rw [ha]
  have hal2 : (es.toList.map (·.key)).length = bs.length := hl
  refine wpAny_bind (wpAny_newList ?_ (by rw [hal2]; exact hz))
  refine wpAny_bind (wpAny_holding ?_)
  have k2 : ∀ b u, s.heap.get? b = some u → (h'.push { cls := .type "list", data := .seq (es.toList.map (·.key)).toArray }).get? b = some u := fun b u q => Heap.get?_push_of_some _ (keep b u q)
  refine PySem.W.list_sort_data (R := R) (enc := enc) (bs := bs) (vs := es.toList.map (·.key)) (n := 0) (Heap.get?_push_size _ rfl) e (each_imp' r fun v b ⟨as, h⟩ => ⟨as, PyProof.Rows.Reads.keeps k2 h, fun hm => ?_⟩) hal hk hz (fun b hb => ?_) fun out ho eo => ?_
  · have := hd b hb
    show A.units + 1 + 1 + _ < _
    omega
  · refine wpAny_pure ⟨_, rfl, ?_⟩
    refine q h' _ tk out keep (fun b u z => ?_) ?_ ho eo
    · have := Heap.lt_size z
      rw [sortedHeap_old (Nat.ne_of_lt this) (by rw [Heap.size_push]; exact Nat.lt_succ_of_lt this)]
      exact Heap.get?_push_of_some _ z
    · exact sortedHeap_at (Heap.get?_push_size _ rfl)
  · obtain ⟨u, hu⟩ := PyProof.On.reads_mem_get h _ hm
    have hu := keep _ _ hu
    have := Heap.lt_size hu
    exact absurd this (Nat.lt_irrefl _)
end
def rSortD (K : PySem.W.Frag) : List V → Hp → VK → Prop := fun vs H Q => ∃ (a : Addr) (bs : List (V × PV)), vs = [V.ref a] ∧ KRow H a (bs.map (·.1)) ∧ (∀ b ∈ bs, Dp K H b.1 (toD b.2)) ∧
  PySem.W.AllAlike (bs.map bsK) ∧ PySem.W.Sortable (bs.map bsK) ∧ (∀ b ∈ bs, (toD b.2).depth ≤ 60) ∧
  ∀ p, H p = none → Q (.ref p) (upd H p (.lst ((bs.mergeSort (PySem.W.dataLe false bsK)).map (·.1))))
theorem cr_sortD {X : Cx} (hc : X.calm = true) (hu : X.A.units + 70 < cLine) : CallR X (.builtin "sorted") (rSortD X.K) := by
  intro pins s σ H vs us Q I r h
  obtain ⟨a, bs, rfl, hs, hd, hal, hk, hdep, q⟩ := h
  rw [Vals.ref1 r]
  obtain ⟨lo, es, ep, hr, hz, rv⟩ := krow_raw I hs
  rw [List.length_map] at hz
  have e := vals_each rv
  refine sorted_raw (R := fun u (b : V × PV) => RelV b.1 u) (enc := bsK) lo (I.ok.hd hc) hr e (each_imp e fun u b hb h => Dp.reads I _ _ _ (hd b hb) h) hal hk hz (fun b hb => ?_) fun h1 h' tk out k1 k2 he ho eo => ?_
  · have := hdep b hb
    show X.A.units + 2 + (toD b.2).depth < cLine
    omega
  · obtain ⟨ep, he'⟩ := he
    have hlen : ((bs.mergeSort (PySem.W.dataLe false bsK)).map (·.1)).length ≤ sizeLine := by rw [List.length_map, (List.mergeSort_perm _ _).length_eq]; exact hz
    have I1 := I.kept (t' := tk) k1
    exact ⟨.ref _, upd H h1.objs.size (.lst ((bs.mergeSort (PySem.W.dataLe false bsK)).map (·.1))), I1.laid (t' := tk) k2 (Nat.le_refl _) ⟨hlen, out, ep, each_vals eo, he'⟩, rfl, q _ (I1.hok.fresh (Nat.le_refl _))⟩
def rListD : List V → Hp → VK → Prop := fun vs H Q => ∃ (a : Addr) (ys : List V), vs = [V.ref a] ∧ KRow H a ys ∧ ∀ p, H p = none → Q (.ref p) (upd H p (.lst ys))
theorem call_listKD {X : Cx} (hc : X.calm = true) : CallR X (.type "list") rListD := by
  intro pins s σ H vs us Q I r h
  obtain ⟨a, ys, rfl, hs, q⟩ := h
  rw [Vals.ref1 r]
  obtain ⟨lo, es, ep, hr, hz, rv⟩ := krow_raw I hs
  have hes : es.size = ys.length := by have := rv.length; simp at this; omega
  refine PySem.W.kdl_call (src_raw (ep := ep) lo) (I.ok.hd hc) hr (by rw [hes]; exact hz) fun h' tk acc c' hk hD hacc => ?_
  refine ⟨.ref s.heap.objs.size, upd H s.heap.objs.size (.lst ys), I.laid (t' := tk) hk (Nat.le_refl _)
    (show ObjOk X.prog X.w _ _ _ (.lst ys) from ⟨hz, acc.toList, c', by rw [items_row hacc]; exact rv, by rw [Array.toArray_toList]; exact hD⟩), rfl, q _ (I.hok.fresh (Nat.le_refl _))⟩
def tyS : Ty → String
  | .int => "int"
  | .bool => "bool"
  | .str => "str"
  | .tuple => "tuple"
  | .list => "list"
  | .dict => "dict"
def tyN (cl : Nat → Addr) : PV → Value
  | .non => .type "NoneType"
  | .bl _ => .type "bool"
  | .int _ => .type "int"
  | .str _ => .type "str"
  | .tup _ => .type "tuple"
  | .lst _ => .type "list"
  | .xls _ => .type "list"
  | .dic _ => .type "dict"
  | .ins c _ => .ref (cl c)
structure ClsF (G : Gr) (cs : List Nat) (c : Nat) : Prop where
  cls : Cls G.K (G.cl c)
  ha : PySem.W.findIn G.K (.ref (G.cl c)) "__class__" = some (some (.builtin "object.__class__"))
  hn : PySem.W.specialIn G.K (.builtin "object.__class__") "__get__" = some (some (.builtin "getset_descriptor.__get__"))
  htk : PySem.W.takesIn G.K (.builtin "object.__class__") = some true
  hm : PySem.W.mroIn G.K (G.cl c) (.type "object") = some true
  kt : ∀ t, PySem.W.kitOne G.K (.ref (G.cl c)) (.type (tyS t)) = some false
  kc : ∀ d ∈ cs, PySem.W.kitOne G.K (.ref (G.cl d)) (.ref (G.cl c)) = some (decide (d = c))
  kn : ∀ n ∈ ["NoneType", "bool", "int", "str", "tuple", "list", "dict"], PySem.W.kitOne G.K (.type n) (.ref (G.cl c)) = some false
theorem kit_tab : ∀ (t : Ty) (p : PV) (b : Bool), (∀ c fs, p ≠ .ins c fs) → isTy t p = some b → ∀ K cl, PySem.W.kitOne K (tyN cl p) (.type (tyS t)) = some b := by
  intro t p b np h K cl
  cases p with
  | ins c fs => exact absurd rfl (np c fs)
  | non => cases t <;> cases h <;> exact kit_ty (by decide +kernel)
  | bl _ => cases t <;> cases h <;> exact kit_ty (by decide +kernel)
  | int _ => cases t <;> cases h <;> exact kit_ty (by decide +kernel)
  | str _ => cases t <;> cases h <;> exact kit_ty (by decide +kernel)
  | tup _ => cases t <;> cases h <;> exact kit_ty (by decide +kernel)
  | lst _ => cases t <;> cases h <;> exact kit_ty (by decide +kernel)
  | xls _ => cases t <;> cases h <;> exact kit_ty (by decide +kernel)
  | dic _ => cases t <;> cases h
section
variable {G : Gr} {I H : Hp} {x y : V} {a b : PV} {s : Slot} {Q : VK} {cs : List Nat}
theorem sqT_ty {p : Addr} {vs : List V} (h : SqT G.K H p vs) : TyX G.K H (.ref p) (.type "tuple") := by
  rcases h with (h | ⟨o, h⟩) | ⟨o, its, n, h, hc, _⟩
  · exact .base (.tup h)
  · exact .fTuple h
  · exact .kTuple h hc
theorem sqL_ty {p : Addr} {vs : List V} (h : SqL G.K H p vs) : TyX G.K H (.ref p) (.type "list") := by
  rcases h with (h | ⟨o, h⟩) | ⟨o, its, n, h, hc, _⟩
  · exact .base (.lst h)
  · exact .base (.frz h)
  · exact .kList h hc
theorem BRep.ty (ex : Ex I H) (h : BRep G I H x a) (hd : ∀ kvs, a ≠ .dic kvs) (hc : ∀ c fs, a = .ins c fs → ClsF G cs c) : TyX G.K H x (tyN G.cl a) := by
  cases h with
  | imm h =>
    cases h with
    | non => exact .base .non
    | bl b => exact .base (.bl b)
    | int b => exact .base (.int b)
    | str b => exact .base (.str b)
    | tup h r => exact sqT_ty (ex_t ex h)
    | lst h r => exact .base (.lst (ex _ _ h))
    | xls h r => exact sqL_ty (ex_l ex h)
    | dic h r => exact absurd rfl (hd _)
    | ins h t r =>
      have f := hc _ _ rfl
      exact .base (.ins (ex _ _ h) f.cls f.ha f.hn f.htk f.hm)
  | lst h r => exact .base (.lst h)
  | dic h r => exact absurd rfl (hd _)
  | ins h t r =>
    have f := hc _ _ rfl
    exact .base (.ins h f.cls f.ha f.hn f.htk f.hm)
end
def r1 (K : PySem.W.Frag) (cl : Nat → Addr) : P1 → V → Hp → VK → Prop
  | .neg => rU fun i => .int (-i)
  | .len => fun x H Q => (∃ p ys, [x] = [V.ref p] ∧ (SqL K H p ys ∨ SqT K H p ys) ∧ Q (.int ys.length) H) ∨ rDLen [x] H Q
  | .tupleOf => fun x H Q => ∃ p ys, [x] = [V.ref p] ∧ ((SqL K H p ys ∧ ∀ l, H l = none → Q (.ref l) (upd H l (.tup ys))) ∨ (SqT K H p ys ∧ Q (.ref p) H))
  | .listOf => fun x H Q => (∃ p ys, [x] = [V.ref p] ∧ (SqL K H p ys ∨ SqT K H p ys) ∧ ∀ l, H l = none → Q (.ref l) (upd H l (.lst ys))) ∨ rListD [x] H Q
  | .sorted => fun x H Q => rSortP K [x] H Q ∨ rSortD K [x] H Q
  | .sum => fun x => rSum K [x]
  | .all => fun x => rAll K [x]
  | .any => fun x => rAny K [x]
  | .min => fun _ _ _ => False
  | .max => fun _ _ _ => False
  | .isNone => fun x H Q => Q (.bl (decide (x = .non))) H
  | .notNone => fun x H Q => Q (.bl (!decide (x = .non))) H
  | .notB => fun x H Q => ∃ c, x = .bl c ∧ Q (.bl (!c)) H
  | .intOf => fun x H Q => (∃ i, [x] = [V.int i] ∧ Q (.int i) H) ∨ ∃ k, [x] = [V.bl k] ∧ Q (.int (if k then 1 else 0)) H
  | .isT t _ => fun x => rIsi K [x, .ty (tyS t)]
  | .isC c _ => fun x => rIsi K [x, .ref (cl c)]
  | .stp lo c => fun x H Q => ∃ p ys, x = .ref p ∧ SqT K H p ys ∧ (stpL ys lo c).length ≤ lim ∧ ∀ l, H l = none → Q (.ref l) (upd H l (.tup (stpL ys lo c)))
  | .rev => fun x H Q => ∃ p ys, x = .ref p ∧ SqL K H p ys ∧ ∀ l, H l = none → Q (.ref l) (upd H l (.lst ys.reverse))
section
variable {G : Gr} {I H : Hp} {x y : V} {a b : PV} {s : Slot} {Q : VK} {cs : List Nat}
theorem BRep.non_iff (h : BRep G I H x a) : decide (x = .non) = isN a := by
  cases h with
  | imm h => cases h <;> simp [isN]
  | _ => simp [isN]
def okP1 (G : Gr) : P1 → Prop
  | .isT _ cs => ∀ c ∈ cs, ClsF G cs c
  | .isC d cs => d ∈ cs ∧ ∀ c ∈ cs, ClsF G cs c
  | _ => True
theorem zip_fst : ∀ {vs : List V} {ps : List PV}, RepL G I vs ps → (vs.zip ps).map (·.1) = vs
  | _, _, .nil => rfl
  | _, _, .cons h r => by rw [List.zip_cons_cons, List.map_cons, zip_fst r]
theorem zip_snd : ∀ {vs : List V} {ps : List PV}, RepL G I vs ps → (vs.zip ps).map (·.2) = ps
  | _, _, .nil => rfl
  | _, _, .cons h r => by rw [List.zip_cons_cons, List.map_cons, zip_snd r]
theorem zip_mem : ∀ {vs : List V} {ps : List PV}, RepL G I vs ps → ∀ b ∈ vs.zip ps, b.2 ∈ ps ∧ Rep G I b.1 b.2
  | _, _, .nil, b, h => by simp at h
  | _, _, .cons h r, b, m => by
    rw [List.zip_cons_cons] at m
    rcases List.mem_cons.mp m with rfl | m
    · exact ⟨List.mem_cons_self, h⟩
    · exact ⟨List.mem_cons_of_mem _ (zip_mem r b m).1, (zip_mem r b m).2⟩
theorem repL_of : ∀ {bs : List (V × PV)}, (∀ b ∈ bs, Rep G I b.1 b.2) → RepL G I (bs.map (·.1)) (bs.map (·.2))
  | [], _ => .nil
  | b :: r, h => .cons (h b List.mem_cons_self) (repL_of fun c hc => h c (List.mem_cons_of_mem _ hc))
theorem ne_tuple_of {xs : List PV} {p : PV} (h : (match p with | .tup _ => false | .non => false | _ => true) = true) : toD p ≠ .none ∧ ∀ ys, toD p ≠ .tuple ys := by
  cases p <;> first | (exfalso; exact Bool.noConfusion h) | exact ⟨by simp [toD], by simp [toD]⟩
theorem tuple_of {p : PV} (h : (match p with | .tup (_ :: _) => true | _ => false) = true) : ∃ y r, toD p = .tuple (y :: r) := by
  cases p with
  | tup xs =>
    cases xs with
    | nil => cases h
    | cons z r => exact ⟨toD z, toDs r, by rw [toD, toDs]⟩
  | _ => cases h
theorem sort_ok {xs : List PV} (h : sortable xs = true) : PySem.W.AllAlike (xs.map toD) ∧ PySem.W.Sortable (xs.map toD) ∧ (∀ p ∈ xs, (toD p).depth ≤ 60) ∧ ∀ p ∈ xs, noDict (toD p) = true := by
  unfold sortable at h
  rw [Bool.and_eq_true, Bool.and_eq_true, Bool.or_eq_true] at h
  obtain ⟨⟨h1, h2⟩, h3⟩ := h
  have al : ∀ p ∈ xs, ∀ q ∈ xs, PySem.W.alike (toD p) (toD q) = true := fun p hp q hq => List.all_eq_true.mp (List.all_eq_true.mp h1 p hp) q hq
  refine ⟨fun d hd d' hd' => ?_, ?_, fun p hp => of_decide_eq_true (List.all_eq_true.mp h2 p hp), fun p hp => noDict_self _ (al p hp p hp)⟩
  · obtain ⟨p, hp, rfl⟩ := List.mem_map.mp hd
    obtain ⟨q, hq, rfl⟩ := List.mem_map.mp hd'
    exact al p hp q hq
  · rcases h3 with h3 | h3
    · refine .inl fun d hd => ?_
      obtain ⟨p, hp, rfl⟩ := List.mem_map.mp hd
      exact tuple_of (List.all_eq_true.mp h3 p hp)
    · refine .inr fun d hd => ?_
      obtain ⟨p, hp, rfl⟩ := List.mem_map.mp hd
      exact ne_tuple_of (xs := xs) (List.all_eq_true.mp h3 p hp)
theorem val_sort {a : Addr} {vs : List V} {xs : List PV} (ex : Ex I H) (h : SqL G.K H a vs ∨ SqT G.K H a vs) (r : RepL G I vs xs) (q : sortable xs = true) (f : Fin G I H (.olst (sortV xs)) Q) : rSortP G.K [.ref a] H Q := by
  obtain ⟨h1, h2, h3, h4⟩ := sort_ok q
  have e1 : (vs.zip xs).map bsK = xs.map toD := by
    rw [show bsK = toD ∘ (·.2) from rfl, ← List.map_map, zip_snd r]
  refine ⟨a, vs.zip xs, rfl, by rw [zip_fst r]; exact h, fun b hb => ?_, by rw [e1]; exact h1, by rw [e1]; exact h2, fun b hb => h3 _ (zip_mem r b hb).1, fun p hp => ?_⟩
  · exact ((zip_mem r b hb).2.mono ex).dp (h4 _ (zip_mem r b hb).1)
  · have e2 : ((vs.zip xs).mergeSort (PySem.W.dataLe false bsK)).map (·.2) = sortV xs := by
      rw [List.map_mergeSort (s := fun a b => !PySem.W.dataLt (toD b) (toD a)) (fun a _ b _ => by rw [PySem.W.dataLe_eq]; rfl), zip_snd r]
      rfl
    have rl : RepL G I (((vs.zip xs).mergeSort (PySem.W.dataLe false bsK)).map (·.1)) (((vs.zip xs).mergeSort (PySem.W.dataLe false bsK)).map (·.2)) :=
      repL_of fun b hb => (zip_mem r b ((List.mergeSort_perm _ _).mem_iff.mp hb)).2
    rw [e2] at rl
    exact f.lst ex rl hp
theorem flat_keys {a : Addr} : ∀ {d : HO} {kvs : List (PV × PV)}, RepK G I a d kvs → ∀ {l : List (Key × V)}, d = .dK l → RepL G I (l.map fun kv => kV kv.1) (kvs.map (·.1))
  | _, _, .nil, l, e => by cases e; exact .nil
  | _, _, .cons (k := k) h r, l, e => by
    cases e
    refine .cons ?_ (flat_keys r rfl)
    cases k <;> constructor
  | _, _, .nest ne r, l, e => by unfold dN at e; cases e
theorem nest_keys : ∀ {xs : List (NKey × Addr × Value)} {kvs : List (PV × PV)}, RepN G I xs kvs → RepL G I (xs.map fun y => V.ref y.2.1) (kvs.map (·.1))
  | _, _, .nil => .nil
  | _, _, .cons hk hp hv h r => .cons hp (nest_keys r)
theorem krow_of : ∀ {a : Addr} {d : HO} {kvs : List (PV × PV)}, H a = some d → RepK G I a d kvs → ∃ vs, KRow H a vs ∧ RepL G I vs (kvs.map (·.1)) := by
  intro a d kvs h r
  cases r with
  | nil => exact ⟨[], .inl ⟨[], h, rfl⟩, .nil⟩
  | @cons _ k v x kvs gs h' r => exact ⟨_, .inl ⟨_, h, rfl⟩, flat_keys (.cons h' r) rfl⟩
  | nest ne r => exact ⟨_, .inr ⟨_, _, h, rfl⟩, nest_keys r⟩
theorem val_sortD {a : Addr} {vs : List V} {xs : List PV} (ex : Ex I H) (h : KRow H a vs) (r : RepL G I vs xs) (q : sortable xs = true) (f : Fin G I H (.olst (sortV xs)) Q) : rSortD G.K [.ref a] H Q := by
  obtain ⟨h1, h2, h3, h4⟩ := sort_ok q
  have e1 : (vs.zip xs).map bsK = xs.map toD := by
    rw [show bsK = toD ∘ (·.2) from rfl, ← List.map_map, zip_snd r]
  refine ⟨a, vs.zip xs, rfl, by rw [zip_fst r]; exact h, fun b hb => ?_, by rw [e1]; exact h1, by rw [e1]; exact h2, fun b hb => h3 _ (zip_mem r b hb).1, fun p hp => ?_⟩
  · exact ((zip_mem r b hb).2.mono ex).dp (h4 _ (zip_mem r b hb).1)
  · have e2 : ((vs.zip xs).mergeSort (PySem.W.dataLe false bsK)).map (·.2) = sortV xs := by
      rw [List.map_mergeSort (s := fun a b => !PySem.W.dataLt (toD b) (toD a)) (fun a _ b _ => by rw [PySem.W.dataLe_eq]; rfl), zip_snd r]
      rfl
    have rl : RepL G I (((vs.zip xs).mergeSort (PySem.W.dataLe false bsK)).map (·.1)) (((vs.zip xs).mergeSort (PySem.W.dataLe false bsK)).map (·.2)) :=
      repL_of fun b hb => (zip_mem r b ((List.mergeSort_perm _ _).mem_iff.mp hb)).2
    rw [e2] at rl
    exact f.lst ex rl hp
theorem stp_aux {vs : List V} {ps : List PV} (r : RepL G I vs ps) (f : Nat → Nat) : ∀ l : List Nat, RepL G I (l.filterMap fun m => vs[f m]?) (l.filterMap fun m => ps[f m]?)
  | [] => .nil
  | m :: l => by
    rw [List.filterMap_cons, List.filterMap_cons]
    cases z : vs[f m]? with
    | none =>
      have : ps[f m]? = none := by
        rw [List.getElem?_eq_none_iff] at z ⊢
        rw [← r.length]; exact z
      rw [this]
      exact stp_aux r f l
    | some v =>
      obtain ⟨p', hp', rp⟩ := r.getV z
      rw [hp']
      exact .cons rp (stp_aux r f l)
theorem stp_rep {vs : List V} {ps : List PV} {lo : Option Int} {c : Int} (r : RepL G I vs ps) : RepL G I (stpL vs lo c) (stpL ps lo c) := by
  unfold stpL
  rw [r.length]
  exact stp_aux r _ _
theorem val_op1 {p : P1} (hp : okP1 G p) (ex : Ex I H) (q : op1 p a = some s) (ha : BRep G I H x a) (f : Fin G I H s Q) : r1 G.K G.cl p x H Q := by
  cases p with
  | neg =>
    cases a <;> cases q
    exact ⟨_, ha.to_int, f.val ex (.int _)⟩
  | len =>
    by_cases hd : ∃ kvs, a = .dic kvs
    · obtain ⟨kvs, rfl⟩ := hd
      have q' : (if kvs.all fun p => flatK p.1 then some (Slot.val (.int kvs.length)) else none) = some s := q
      by_cases c : (kvs.all fun p => flatK p.1) = true
      · rw [if_pos c] at q'
        cases q'
        obtain ⟨p, d, rfl, h, r⟩ := ha.to_dic ex
        obtain ⟨l, rfl⟩ := not_flat r (List.all_eq_true.mp c)
        exact .inr ⟨p, l, rfl, h, by rw [flat_len r rfl]; exact f.val ex (.int _)⟩
      · rw [if_neg c] at q'; cases q'
    have q : op1 .len a = some s := q
    cases a <;> first | exact absurd ⟨_, rfl⟩ hd | cases q
    · obtain ⟨p, vs, rfl, _, h, r⟩ := ha.to_tup ex
      exact .inl ⟨p, vs, rfl, .inr h, by rw [r.length]; exact f.val ex (.int _)⟩
    · obtain ⟨p, vs, rfl, h, r⟩ := ha.to_lst ex
      exact .inl ⟨p, vs, rfl, .inl (sq_of h), by rw [r.length]; exact f.val ex (.int _)⟩
    · obtain ⟨p, vs, rfl, h, r⟩ := ha.to_xls ex
      exact .inl ⟨p, vs, rfl, .inl h, by rw [r.length]; exact f.val ex (.int _)⟩
  | tupleOf =>
    cases a <;> cases q
    · obtain ⟨p, vs, rfl, hi, h, r⟩ := ha.to_tup ex
      exact ⟨p, vs, rfl, .inr ⟨h, f.val ex (.tup hi r)⟩⟩
    · obtain ⟨p, vs, rfl, h, r⟩ := ha.to_lst ex
      exact ⟨p, vs, rfl, .inl ⟨sq_of h, fun l hl => f.tup ex r hl⟩⟩
  | listOf =>
    cases a <;> cases q
    · obtain ⟨p, vs, rfl, hi, h, r⟩ := ha.to_tup ex
      exact .inl ⟨p, vs, rfl, .inr h, fun l hl => f.lst ex r hl⟩
    · obtain ⟨p, vs, rfl, h, r⟩ := ha.to_lst ex
      exact .inl ⟨p, vs, rfl, .inl (sq_of h), fun l hl => f.lst ex r hl⟩
    · obtain ⟨p, vs, rfl, h, r⟩ := ha.to_xls ex
      exact .inl ⟨p, vs, rfl, .inl h, fun l hl => f.lst ex r hl⟩
    · obtain ⟨p, d, rfl, h, r⟩ := ha.to_dic ex
      obtain ⟨vs, k, r'⟩ := krow_of h r
      exact .inr ⟨p, vs, rfl, k, fun l hl => f.lst ex r' hl⟩
  | sorted =>
    cases a with
    | lst xs =>
      have q' : (if sortable xs then some (Slot.olst (sortV xs)) else none) = some s := q
      by_cases c : sortable xs = true
      · rw [if_pos c] at q'
        cases q'
        obtain ⟨p, vs, rfl, h, r⟩ := ha.to_lst ex
        exact .inl (val_sort ex (.inl (sq_of h)) r c f)
      · rw [if_neg c] at q'; cases q'
    | tup xs =>
      have q' : (if sortable xs then some (Slot.olst (sortV xs)) else none) = some s := q
      by_cases c : sortable xs = true
      · rw [if_pos c] at q'
        cases q'
        obtain ⟨p, vs, rfl, hi, h, r⟩ := ha.to_tup ex
        exact .inl (val_sort ex (.inr h) r c f)
      · rw [if_neg c] at q'; cases q'
    | dic kvs =>
      have q' : (if sortable (kvs.map (·.1)) then some (Slot.olst (sortV (kvs.map (·.1)))) else none) = some s := q
      by_cases c : sortable (kvs.map (·.1)) = true
      · rw [if_pos c] at q'
        cases q'
        obtain ⟨p, d, rfl, h, r⟩ := ha.to_dic ex
        obtain ⟨vs, k, r'⟩ := krow_of h r
        exact .inr (val_sortD ex k r' c f)
      · rw [if_neg c] at q'; cases q'
    | _ => cases q
  | sum =>
    cases a with
    | lst xs =>
      have q' : ((intsOf xs).map fun is => Slot.val (.int is.sum)) = some s := q
      cases z : intsOf xs with
      | none => rw [z] at q'; cases q'
      | some is =>
        rw [z] at q'
        cases q'
        obtain ⟨p, vs, rfl, h, r⟩ := ha.to_lst ex
        rw [r.ints z] at h
        exact ⟨p, is, rfl, sq_of h, f.val ex (.int _)⟩
    | _ => cases q
  | all =>
    cases a with
    | lst xs =>
      have q' : ((blsOf xs).map fun is => Slot.val (.bl (is.all id))) = some s := q
      cases z : blsOf xs with
      | none => rw [z] at q'; cases q'
      | some is =>
        rw [z] at q'
        cases q'
        obtain ⟨p, vs, rfl, h, r⟩ := ha.to_lst ex
        rw [r.bls z] at h
        exact ⟨p, is, rfl, sq_of h, f.val ex (.bl _)⟩
    | _ => cases q
  | any =>
    cases a with
    | lst xs =>
      have q' : ((blsOf xs).map fun is => Slot.val (.bl (is.any id))) = some s := q
      cases z : blsOf xs with
      | none => rw [z] at q'; cases q'
      | some is =>
        rw [z] at q'
        cases q'
        obtain ⟨p, vs, rfl, h, r⟩ := ha.to_lst ex
        rw [r.bls z] at h
        exact ⟨p, is, rfl, sq_of h, f.val ex (.bl _)⟩
    | _ => cases q
  | min => cases a <;> cases q
  | max => cases a <;> cases q
  | isNone =>
    have q' : s = .val (.bl (isN a)) := by cases a <;> cases q <;> rfl
    show Q (.bl (decide (x = .non))) H
    rw [ha.non_iff]
    rw [q'] at f
    exact f.val ex (.bl _)
  | notNone =>
    have q' : s = .val (.bl (!isN a)) := by cases a <;> cases q <;> rfl
    show Q (.bl (!decide (x = .non))) H
    rw [ha.non_iff]
    rw [q'] at f
    exact f.val ex (.bl _)
  | stp lo c =>
    cases a with
    | tup ps =>
      have q' : (if (stpL ps lo c).length ≤ lim then some (Slot.val (.tup (stpL ps lo c))) else none) = some s := q
      by_cases cc : (stpL ps lo c).length ≤ lim
      · rw [if_pos cc] at q'
        cases q'
        obtain ⟨p, vs, rfl, hi, h, r⟩ := ha.to_tup ex
        exact ⟨p, vs, rfl, h, by rw [(stp_rep r).length]; exact cc, fun l hl => f.tup ex (stp_rep r) hl⟩
      · rw [if_neg cc] at q'; cases q'
    | _ => cases q
  | rev =>
    cases a <;> cases q
    obtain ⟨p, vs, rfl, h, r⟩ := ha.to_lst ex
    exact ⟨p, vs, rfl, sq_of h, fun l hl => f.lst ex r.reverse hl⟩
  | notB =>
    cases a <;> cases q
    exact ⟨_, ha.to_bl, f.val ex (.bl _)⟩
  | intOf =>
    cases a <;> cases q
    · exact .inr ⟨_, by rw [ha.to_bl], f.val ex (.int _)⟩
    · exact .inl ⟨_, by rw [ha.to_int], f.val ex (.int _)⟩
  | isT t cs =>
    by_cases hi : ∃ c fs, a = .ins c fs
    · obtain ⟨c, fs, rfl⟩ := hi
      have q' : (if cs.contains c then some (Slot.val (.bl false)) else none) = some s := q
      by_cases m : cs.contains c = true
      · rw [if_pos m] at q'
        cases q'
        have F := hp c (by simpa using m)
        exact ⟨x, _, _, _, false, rfl, .ty _, ha.ty ex (fun _ => PV.noConfusion) (fun c' fs' e => by cases e; exact F), F.kt t, f.val ex (.bl _)⟩
      · rw [if_neg m] at q'; cases q'
    · have np : ∀ c fs, a ≠ .ins c fs := fun c fs e => hi ⟨c, fs, e⟩
      have q' : (isTy t a).map (fun b => Slot.val (.bl b)) = some s := by
        cases a with
        | ins c fs => exact absurd rfl (np c fs)
        | _ => exact q
      cases z : isTy t a with
      | none => rw [z] at q'; cases q'
      | some b =>
        rw [z] at q'
        cases q'
        have hnd : ∀ kvs, a ≠ .dic kvs := fun kvs e => by rw [e] at z; cases t <;> cases z
        exact ⟨x, _, _, _, b, rfl, .ty _, ha.ty (cs := cs) ex (hnd) (fun c' fs' e => absurd e (np c' fs')), kit_tab t a b np z _ _, f.val ex (.bl _)⟩
  | isC c cs =>
    obtain ⟨hc, F⟩ := hp
    by_cases hi : ∃ d fs, a = .ins d fs
    · obtain ⟨d, fs, rfl⟩ := hi
      have q' : (if cs.contains d then some (Slot.val (.bl (decide (d = c)))) else none) = some s := q
      by_cases m : cs.contains d = true
      · rw [if_pos m] at q'
        cases q'
        exact ⟨x, _, _, _, _, rfl, .own _, ha.ty ex (fun _ => PV.noConfusion) (fun c' fs' e => by cases e; exact F d (by simpa using m)), (F c hc).kc d (by simpa using m), f.val ex (.bl _)⟩
      · rw [if_neg m] at q'; cases q'
    · have np : ∀ c fs, a ≠ .ins c fs := fun c fs e => hi ⟨c, fs, e⟩
      have hnd : ∀ kvs, a ≠ .dic kvs := fun kvs e => by rw [e] at q; cases q
      have q' : s = .val (.bl false) := by
        cases a with
        | ins c fs => exact absurd rfl (np c fs)
        | dic kvs => exact absurd rfl (hnd kvs)
        | _ => cases q; rfl
      subst q'
      have kn := (F c hc).kn
      refine ⟨x, _, _, _, false, rfl, .own _, ha.ty (cs := cs) ex (hnd) (fun c' fs' e => absurd e (np c' fs')), ?_, f.val ex (.bl _)⟩
      cases a with
      | ins c fs => exact absurd rfl (np c fs)
      | dic kvs => exact absurd rfl (hnd kvs)
      | _ => exact kn _ (by simp)
def r2 (K : PySem.W.Frag) (w : World) : P2 → R2
  | .idx => fun x y H Q => (rIxL K x y H Q ∨ rIxT K x y H Q) ∨ rDIx K w x y H Q
  | .min => fun x y H Q => ∃ i j, [x, y] = [V.int i, V.int j] ∧ Q (.int (if j < i then j else i)) H
  | .max => fun x y H Q => ∃ i j, [x, y] = [V.int i, V.int j] ∧ Q (.int (if j > i then j else i)) H
  | .index => fun x y H Q => rIndexD K x [y] H Q
  | _ => fun _ _ _ _ => False
theorem atI_rep {vs : List V} {ps : List PV} {i : Int} {p : PV} (r : RepL G I vs ps) (h : atV ps i = some p) : ∃ v, L2.atI vs i = some v ∧ Rep G I v p := by
  unfold atV L2.atI at h
  unfold L2.atI
  rw [r.length]
  cases z : L2.ixN ps.length i with
  | none => rw [z] at h; cases h
  | some k =>
    rw [z] at h
    obtain ⟨v, h1, h2⟩ := r.get (show ps[k]? = some p from h)
    exact ⟨v, h1, h2⟩
theorem findIdx_at {α : Type} : ∀ {l : List α} {f : α → Bool} {k : Nat}, l.findIdx? f = some k → (∃ z, l[k]? = some z ∧ f z = true) ∧ ∀ (m : Nat) z, m < k → l[m]? = some z → f z = false := by
  intro l f k h
  rw [List.findIdx?_eq_some_iff_getElem] at h
  obtain ⟨h1, h2, h3⟩ := h
  refine ⟨⟨l[k], by simp [h1], h2⟩, fun m z hm hz => ?_⟩
  obtain ⟨h4, rfl⟩ := List.getElem?_eq_some_iff.mp hz
  simpa using h3 m hm
theorem val_op2 {p : P2} (hp : binOf p = none) (hp2 : cmpOf p = none) (ex : Ex I H) (q : op2 p a b = some s) (ha : BRep G I H x a) (hb : BRep G I H y b) (f : Fin G I H s Q) : r2 G.K G.w p x y H Q := by
  cases p with
  | idx =>
    have get : ∀ {vs ps i}, RepL G I vs ps → (atV ps i).map Slot.val = some s → ∃ v, L2.atI vs i = some v ∧ Q v H := fun {vs ps i} r q => by
      cases z : atV ps i with
      | none => rw [z] at q; cases q
      | some p =>
        rw [z] at q
        cases q
        obtain ⟨v, h1, h2⟩ := atI_rep r z
        exact ⟨v, h1, f.val ex h2⟩
    cases a with
    | tup ps =>
      cases b with
      | int i =>
        obtain ⟨p, vs, rfl, _, h, r⟩ := ha.to_tup ex
        obtain ⟨v, h1, h2⟩ := get r q
        exact .inl (.inr ⟨p, vs, i, v, rfl, hb.to_int, h, h1, h2⟩)
      | _ => cases q
    | lst ps =>
      cases b with
      | int i =>
        obtain ⟨p, vs, rfl, h, r⟩ := ha.to_lst ex
        obtain ⟨v, h1, h2⟩ := get r q
        exact .inl (.inl ⟨p, vs, i, v, rfl, hb.to_int, sq_of h, h1, h2⟩)
      | _ => cases q
    | xls ps =>
      cases b with
      | int i =>
        obtain ⟨p, vs, rfl, h, r⟩ := ha.to_xls ex
        obtain ⟨v, h1, h2⟩ := get r q
        exact .inl (.inl ⟨p, vs, i, v, rfl, hb.to_int, h, h1, h2⟩)
      | _ => cases q
    | dic kvs =>
      have q' : (if dKeyOk kvs b then (dGet kvs b).map Slot.val else none) = some s := by cases b <;> exact q
      by_cases c : dKeyOk kvs b = true
      · rw [if_pos c] at q'
        cases z : dGet kvs b with
        | none => rw [z] at q'; cases q'
        | some p =>
          rw [z] at q'
          cases q'
          obtain ⟨u, d, rfl, h, r⟩ := ha.to_dic ex
          obtain ⟨o, hl, _, hg⟩ := look_of ex h r c hb
          obtain ⟨v, rfl, rv⟩ := hg p z
          exact .inr ⟨u, v, rfl, hl, f.val ex rv⟩
      · rw [if_neg c] at q'; cases q'
    | _ => cases q
  | min =>
    cases a <;> cases b <;> cases q
    exact ⟨_, _, by rw [ha.to_int, hb.to_int], f.val ex (.int _)⟩
  | max =>
    cases a <;> cases b <;> cases q
    exact ⟨_, _, by rw [ha.to_int, hb.to_int], f.val ex (.int _)⟩
  | index =>
    cases a with
    | lst ps =>
      have q' : (if okD b && okD (.lst ps) then (findV ps b).map fun k => Slot.val (.int k) else none) = some s := by cases b <;> exact q
      by_cases c : (okD b && okD (.lst ps)) = true
      · rw [if_pos c] at q'
        rw [Bool.and_eq_true] at c
        cases z : findV ps b with
        | none => rw [z] at q'; cases q'
        | some k =>
          rw [z] at q'
          cases q'
          obtain ⟨p, vs, rfl, h, r⟩ := ha.to_lst ex
          have lay : noDicts (toDs ps) = true := by simpa [toD, noDict] using okD_no c.2
          obtain ⟨⟨w, hw, ew⟩, hno⟩ := findIdx_at z
          refine ⟨p, y, toD b, toDs ps, k, toD w, rfl, rfl, .lst (sq_of h) ((r.mono ex).dp lay), (hb.now ex).dp (okD_no c.1), by simpa [okD, toD] using c.2, c.1, ?_, ew, fun m z' hm hz' => ?_, f.val ex (.int _)⟩
          · rw [toDs_map, List.getElem?_map, hw]; rfl
          · rw [toDs_map, List.getElem?_map] at hz'
            cases t : ps[m]? with
            | none => rw [t] at hz'; cases hz'
            | some u =>
              rw [t] at hz'
              cases hz'
              exact hno m u hm t
      · rw [if_neg c] at q'; cases q'
    | _ => cases q
  | add => cases hp
  | sub => cases hp
  | mul => cases hp
  | mod => cases hp
  | fdiv => cases hp
  | eq => cases hp2
  | ne => cases hp2
  | lt => cases hp2
  | le => cases hp2
  | gt => cases hp2
  | ge => cases hp2
  | isIn => cases hp2
  | notIn => cases hp2
end
end RF
set_option maxHeartbeats 1000000
namespace RF
open PySem PySem.Spec PyProof.Rows L2 HT
section
variable {prog : Program} {w : World} {A : Around} {E : Value → Shared → Prop} {s : Shared}
theorem sliceApplied_stp {sl : Addr} {vl vs : Value} {lo : Option Int} {c : Int} {n : Nat} {Q : Int × Int × Nat → Shared → Prop} (hs : s.heap.IsSliceOf sl vl .none vs) (pl : IsPart vl lo) (ps : IsPart vs (some c)) (c0 : c ≠ 0)
    (h : Q ((Builtin.Slice.sliceAdjust lo none c (n : Int)).1, c, Builtin.Slice.slicePlaces (Builtin.Slice.sliceAdjust lo none c (n : Int)).1 (Builtin.Slice.sliceAdjust lo none c (n : Int)).2 c) s) : wpAny (model prog w) A (Builtin.Slice.sliceApplied (.ref sl) (pure (n : Int))) Q E s := by
  obtain ⟨os, hos, hcs, hds⟩ := id hs
  unfold Builtin.Slice.sliceApplied Builtin.Slice.sliceFields
  refine wpAny_bind (wpAny_bind (wpAny_field hos hds (x := vl) rfl (wpAny_bind (wpAny_field hos hds (x := .none) rfl (wpAny_bind (wpAny_field hos hds (x := vs) rfl (wpAny_pure ?_)))))))
  refine wpAny_bind (slicePart_ ps ?_)
  show wpAny _ _ (if (c == 0) = true then _ else _) _ _ s
  rw [if_neg (by simpa using c0)]
  refine wpAny_bind (slicePart_ pl (wpAny_bind (slicePart_none (wpAny_bind (wpAny_pure ?_)))))
  exact wpAny_pure h
theorem getItem_tuple_stp {t sl : Addr} {items : Array Value} {vl vs : Value} {lo : Option Int} {c : Int} {Q : Value → Shared → Prop} (ht : IsTup s.heap t items) (hs : s.heap.IsSliceOf sl vl .none vs) (pl : IsPart vl lo) (ps : IsPart vs (some c)) (c0 : c ≠ 0) (c1 : c ≠ 1)
    (h : Q (.ref s.heap.objs.size) { s with heap := s.heap.push { cls := .type "tuple", data := .seq (stpL items.toList lo c).toArray } })
    (hsz : (stpL items.toList lo c).length ≤ sizeLine) : wpAny (model prog w) A (getItem (.ref t) (.ref sl)) Q E s := by
  have htake : sizeOk (.seq (stpL items.toList lo c).toArray) := by
    show (stpL items.toList lo c).toArray.size ≤ sizeLine
    rw [List.size_toArray]; exact hsz
  obtain ⟨os, hos, hcs, hds⟩ := id hs
  have hTs : s.TypeIs (.ref sl) "slice" := ⟨os, hos, hcs⟩
  unfold getItem
  try with_reducible refine wpAny_holding ?_
  first | refine wpAny_bind (wpAny_pure ?_) | skip
  refine wpAny_bind (wpAny_sequenceKey ht.typeIs (by decide) ?_)
  refine wpAny_bind (wpAny_callSpecial?_slot (name := Str.ofString "__getitem__") ht.typeIs PyProof.Rows.slot_tuple_getitem
    (wpAny_call_entry PyProof.Rows.slot_tuple_getitem ht.typeIs entry_tuple_getitem ?_ (args_tuple_getitem _ _)))
  show wpAny _ _ (Builtin.Tuple.tupleItemsOf (.ref t) >>= _) _ _ s
  refine wpAny_bind (tupleItemsOf_ ht ?_)
  refine wpAny_bind (wpAny_typeOf hTs ?_)
  rw [if_pos (by decide)]
  refine wpAny_bind (sliceApplied_stp hs pl ps c0 ?_)
  have hno : ¬ (((Builtin.Slice.sliceAdjust lo none c (items.size : Int)).1 == 0 && c == 1 && Builtin.Slice.slicePlaces (Builtin.Slice.sliceAdjust lo none c (items.size : Int)).1 (Builtin.Slice.sliceAdjust lo none c (items.size : Int)).2 c == items.size) = true) := by
    intro q
    rw [Bool.and_eq_true, Bool.and_eq_true] at q
    exact c1 (eq_of_beq q.1.2)
  show wpAny _ _ (if ((Builtin.Slice.sliceAdjust lo none c (items.size : Int)).1 == 0 && c == 1 && Builtin.Slice.slicePlaces (Builtin.Slice.sliceAdjust lo none c (items.size : Int)).1 (Builtin.Slice.sliceAdjust lo none c (items.size : Int)).2 c == items.size) = true then _ else _) _ _ s
  rw [if_neg hno]
  have e : ((List.range (Builtin.Slice.slicePlaces (Builtin.Slice.sliceAdjust lo none c (items.size : Int)).1 (Builtin.Slice.sliceAdjust lo none c (items.size : Int)).2 c)).filterMap fun (m : Nat) => items[((Builtin.Slice.sliceAdjust lo none c (items.size : Int)).1 + (m : Int) * c).toNat]?) = stpL items.toList lo c := by
    unfold stpL
    rw [Array.length_toList]
    simp only [Array.getElem?_toList]
  rw [e]
  first
    | exact wpAny_bind (m := Builtin.Tuple.tupleExact _) (wpAny_newObj_type (wpAny_pure ⟨_, rfl, wpAny_pure h⟩) htake)
    | exact wpAny_bind (m := Builtin.Tuple.tupleExact _) (wpAny_newObj_type (wpAny_bind (wpAny_pure (wpAny_pure ⟨_, rfl, wpAny_pure h⟩))) htake)
    | exact wpAny_bind (wpAny_bind (m := Builtin.Tuple.tupleExact _) (wpAny_newObj_type (wpAny_pure (wpAny_pure ⟨_, rfl, wpAny_pure h⟩)) htake))
    | exact wpAny_bind (wpAny_bind (m := Builtin.Tuple.tupleExact _) (wpAny_newObj_type (wpAny_pure ⟨_, rfl, wpAny_pure h⟩) htake))
end
theorem vals_stp_aux {xs : List V} {us : List Value} (r : Vals xs us) (f : Nat → Nat) : ∀ l : List Nat, Vals (l.filterMap fun m => xs[f m]?) (l.filterMap fun m => us[f m]?)
  | [] => .nil
  | m :: l => by
    rw [List.filterMap_cons, List.filterMap_cons]
    cases z : xs[f m]? with
    | none =>
      have : us[f m]? = none := by
        rw [List.getElem?_eq_none_iff] at z ⊢
        rw [← r.length]; exact z
      rw [this]
      exact vals_stp_aux r f l
    | some v =>
      obtain ⟨u, hu, ru⟩ := r.get z
      rw [hu]
      exact .cons ru (vals_stp_aux r f l)
theorem vals_stp {xs : List V} {us : List Value} {lo : Option Int} {c : Int} (r : Vals xs us) : Vals (stpL xs lo c) (stpL us lo c) := by
  unfold stpL
  rw [r.length]
  exact vals_stp_aux r _ _
theorem pe_stp {X : Cx} {cl : Nat → Addr} {e : Expr} {te : TE} {lo : Option Expr} {l : Option Int} {c : Int} {k : Nat} {p1 p2 pos : Pos} (he : PE X e te) (hl : PO X lo fun σ H Q => Q l H) (c0 : c ≠ 0) (c1 : c ≠ 1) :
    PE X (.Subscript e (.Slice lo none (some (.Constant (.int c) k p1)) p2) pos) (tUn (r1 X.K cl (.stp l c)) te) := by
  refine ⟨fun pins s σ H Q I h => ?_⟩
  refine Subscript_ (thn (he.run pins s σ H _ I h) fun v s1 ⟨x, H1, I1, r1, q1⟩ => ?_)
  obtain ⟨a, xs, ex, hx, hlen, q⟩ := q1
  subst ex
  cases r1
  have hst : PO X (some (.Constant (.int c) k p1)) (tPart (tC (.int c))) := po_some pe_int
  refine wpAny_Slice (thn (hl.run pins s1 σ H1 (fun o H2 => o = l ∧ H2 = H1) I1 ⟨rfl, rfl⟩) fun vl s2 ⟨l', H2, I2, pl, el, e2⟩ => ?_)
  subst el e2
  refine thn (po_none.run pins s2 σ H2 (fun o H3 => o = none ∧ H3 = H2) I2 ⟨rfl, rfl⟩) fun vu s3 ⟨u, H3, I3, pu, eu, e3⟩ => ?_
  subst eu e3
  refine thn (hst.run pins s3 σ H3 (fun o H4 => o = some c ∧ H4 = H3) I3 ⟨c, rfl, rfl, rfl⟩) fun vs s4 ⟨o, H4, I4, ps, eo, e4⟩ => ?_
  subst eo e4
  have evu : vu = .none := by cases pu; rfl
  subst evu
  have I5 : Inv X pins σ H4 { s4 with heap := s4.heap.push { cls := .type "slice", data := .fields #[vl, .none, vs] } } := I4.kept (t' := s4.toks) fun b ob q => Heap.get?_push_of_some _ q
  obtain ⟨its, r, ht, hz⟩ := I5.tuple hx
  show wpAny (model X.prog X.w) X.A (subscriptTail e (.Slice lo none (some (.Constant (.int c) k p1)) p2) (.ref a) (.ref s4.heap.objs.size)) (EP X pins σ Q) X.xe { s4 with heap := s4.heap.push { cls := .type "slice", data := .fields #[vl, .none, vs] } }
  refine tail_any (ops := [.ref a, .ref s4.heap.objs.size]) ht.typeIs PyProof.Rows.slot_tuple_getitem.lookup ?_ (by with_unfolding_all rfl)
  have rr := vals_stp (lo := l') (c := c) r
  have hsz : (stpL its l' c).length ≤ sizeLine := by
    rw [← rr.length]
    exact Nat.le_trans hlen lim_le
  refine getItem_tuple_stp (lo := l') ht (Heap.IsSliceOf.new _ vl .none vs) pl ps c0 c1 ?_ (by simpa using hsz)
  refine ⟨.ref _, _, I5.laid (t' := s4.toks) (o := .tup (stpL xs l' c)) (fun b ob q => Heap.get?_push_of_some _ q) (Nat.le_refl _) ?_, rfl, q _ (I5.hok.fresh (Nat.le_refl _))⟩
  exact ⟨Nat.le_trans hlen lim_le, _, rr, IsTup.new _ _⟩
end RF
set_option maxHeartbeats 1000000
namespace RF
open PySem PySem.Spec PyProof.Rows L2 Evl
section
variable {G : Gr} {EX : WX} {n m nc : Bool} {I I1 I' H H1 H' : Hp} {F F1 F' Fs Gs : List Addr} {σ : L2.St} {e e1 e' : Env} {v u : V} {x y : EV} {vs : List V} {xs : List EV} {s : Slot} {a b : PV} {Q : VK}
theorem EvRs.one (h : EvRs G I H σ vs [x] F) : ∃ v F', vs = [v] ∧ EvR G I H σ v x F' := by
  cases h with
  | cons h r => cases r; exact ⟨_, _, rfl, h⟩
theorem EvRs.hd (h : EvRs G I H σ (v :: vs) (x :: xs) F) : ∃ F1 F2, F = F1 ++ F2 ∧ EvR G I H σ v x F1 ∧ EvRs G I H σ vs xs F2 := by
  cases h with
  | cons h r => exact ⟨_, _, rfl, h, r⟩
theorem Hld.fin (h : Hld G n I H F σ vs xs e1 I1 H1 Fs F1) (q : PostE G EX n (.ok (.sl s) e1) I H F σ Q) : Fin G I1 H1 s Q := fun v I' H' Fs k r => h.done q k r
theorem Hld.grow (h : Hld G n I H F σ vs xs e1 I1 H1 Fs F1) (k : New I1 H1 I' H' Gs) : Hld G n I H F σ vs xs e1 I' H' Fs F1 := by
  have h0 : Hld G n I H F σ [] [] e1 I1 H1 [] F1 := ⟨h.stp.weak (fun z => z) fun a ha => List.mem_append_right _ (by simpa using ha), h.w, .nil, h.w.nd, fun a z => nomatch z⟩
  obtain ⟨h1, h2, h3⟩ := k.there h0
  have same : ∀ a ∈ Fs, H' a = H1 a ∧ I' a = I1 a := fun a ha => by
    obtain ⟨o, ho⟩ := h.ev.there a ha
    exact ⟨(k.exH a o ho).trans ho.symm, k.same a o ho⟩
  refine ⟨⟨h1.ex, h1.old, h1.dom, fun a ha => ?_, h1.keep⟩, h2, h.ev.stay k.ex (fun a ha => (same a ha).1) (m := true) (fun x _ => by cases x with | sl _ => trivial | pl _ fs => exact .inr rfl) (fun _ => k.exH), h.nd, fun a ha => (same a ha).2.trans (h.fr a ha)⟩
  rcases List.mem_append.mp ha with q | q
  · exact h.stp.own a (List.mem_append_left _ q)
  · exact h1.own a (List.mem_append_right _ q)
theorem Hld.tail (h : Hld G n I H F σ (v :: vs) (x :: xs) e1 I1 H1 Fs F1) : ∃ Gs, Hld G n I H F σ vs xs e1 I1 H1 Gs F1 := by
  obtain ⟨A, B, rfl, _, r⟩ := h.ev.hd
  refine ⟨B, h.stp.weak (fun z => z) (fun a ha => ?_), h.w, r, ?_, fun a ha => h.fr a (List.mem_append_right _ ha)⟩
  · rcases List.mem_append.mp ha with q | q <;> simp [q]
  · have := h.nd
    rw [List.append_assoc] at this
    exact (List.nodup_append.mp this).2.1
theorem Hld.value (h : Hld G n I H F σ vs xs e1 I1 H1 Fs F1) (q : PostE G EX n (.ok (.sl (.val a)) e1) I H F σ Q) (r : Rep G I1 v a) : Q v H1 := (h.fin q).val h.w.ex r
theorem t_un {f : FE} {k : EV → FE} {t' : V → Hp → VK → Prop}
    (hk : ∀ {I H F I1 H1 F1 Fs v x e1 Q}, Hld G nc I H F σ [v] [x] e1 I1 H1 Fs F1 → PostE G EX nc (k x e1) I H F σ Q → t' v H1 Q)
    (z : tE G EX nc (fun e => (f e).bind k) σ H Q) : tE G EX nc f σ H fun v H1 => t' v H1 Q := by
  obtain ⟨I, e, F, w, q⟩ := z
  try dsimp only at q
  refine (Hld.start w).eval (m := nc) (fun x hx => nomatch hx) ?_
  cases z : f e with
  | ok x e' => rw [z] at q; exact fun v I' H' Gs F' h => hk h q
  | exc x e' => rw [z] at q; exact q
  | bad => rw [z] at q; exact q
theorem t_bi {f g : FE} {k : EV → EV → FE} {t' : V → V → Hp → VK → Prop} (hs : Roots f ∨ m = true)
    (hk : ∀ {I H F I1 H1 F1 Fs v u x y e1 Q}, Hld G (n && m) I H F σ [v, u] [x, y] e1 I1 H1 Fs F1 → PostE G EX (n && m) (k x y e1) I H F σ Q → t' v u H1 Q)
    (z : tE G EX (n && m) (fun e => (f e).bind fun x e => (g e).bind (k x)) σ H Q) : tE G EX n f σ H fun v H1 => tE G EX m g σ H1 fun u H2 => t' v u H2 Q := by
  obtain ⟨I, e, F, w, q⟩ := z
  try dsimp only at q
  refine (Hld.start w).eval (m := n) (fun x hx => nomatch hx) ?_
  cases z : f e with
  | ok x e' =>
    rw [z] at q
    refine fun v I' H' Gs F' h => h.eval (m := m) (fun x' hx => ?_) ?_
    · rw [List.mem_singleton.mp hx]
      cases x with
      | sl s => trivial
      | pl i fs => exact hs.imp (fun r => r _ _ _ _ z) id
    · cases z2 : g e' with
      | ok y e2 =>
        have q2 : PostE G EX (n && m) (k x y e2) I H F σ Q := by
          have := q
          rw [show (R.ok x e').bind (fun x e => (g e).bind (k x)) = (g e').bind (k x) from rfl, z2] at this
          exact this
        exact fun u I2 H2 Gs2 F2 h2 => hk h2 q2
      | exc y e2 =>
        rw [show (R.ok x e').bind (fun x e => (g e).bind (k x)) = (g e').bind (k x) from rfl, z2] at q
        exact q
      | bad =>
        rw [show (R.ok x e').bind (fun x e => (g e).bind (k x)) = (g e').bind (k x) from rfl, z2] at q
        exact q
  | exc x e' => rw [z] at q; exact q
  | bad => rw [z] at q; exact q
theorem t_args {f : FA} {k : List EV → FE} {t' : List V → Hp → VK → Prop}
    (hk : ∀ {I H F I1 H1 F1 Fs vs xs e1 Q}, Hld G n I H F σ vs xs e1 I1 H1 Fs F1 → PostE G EX m (k xs e1) I H F σ Q → t' vs H1 Q)
    (z : tE G EX m (fun e => (f e).bind k) σ H Q) : tA G EX n f σ H fun vs H1 => t' vs H1 Q := by
  obtain ⟨I, e, F, w, q⟩ := z
  try dsimp only at q
  refine (Hld.start w).evals (m := n) (fun x hx => nomatch hx) ?_
  cases z : f e with
  | ok x e' =>
    rw [z] at q
    exact fun vs I' H' Gs F' h _ => hk h q
  | exc x e' => rw [z] at q; exact q
  | bad => rw [z] at q; exact q
theorem t_test {α : Type} {f : Env → R α} {k : α → FE} {t' : α → Hp → VK → Prop}
    (hk : ∀ {I H F I1 H1 F1 c e1 Q}, Hld G n I H F σ [] [] e1 I1 H1 [] F1 → PostE G EX (n && m) (k c e1) I H F σ Q → t' c H1 Q)
    (z : tE G EX (n && m) (fun e => (f e).bind k) σ H Q) : tT G EX n f σ H fun c H1 => t' c H1 Q := by
  obtain ⟨I, e, F, w, q⟩ := z
  try dsimp only at q
  refine (Hld.start w).test (m := n) (fun x hx => nomatch hx) ?_
  cases z : f e with
  | ok x e' => rw [z] at q; exact fun I' H' F' h => hk h q
  | exc x e' => rw [z] at q; exact q
  | bad => rw [z] at q; exact q
theorem t_cons {f : FE} {g : FA} {Q : List V → Hp → Prop} (hs : Roots f ∨ m = true)
    (z : tA G EX (n && m) (fun e => (f e).bind fun v e => (g e).bind fun vs e => .ok (v :: vs) e) σ H Q) : tCons (tE G EX n f) (tA G EX m g) σ H Q := by
  obtain ⟨I, e, F, w, q⟩ := z
  try dsimp only at q
  refine (Hld.start w).eval (m := n) (fun x hx => nomatch hx) ?_
  cases z : f e with
  | ok x e' =>
    rw [z] at q
    refine fun v I' H' Gs F' h => h.evals (m := m) (fun x' hx => ?_) ?_
    · rw [List.mem_singleton.mp hx]
      cases x with
      | sl s => trivial
      | pl i fs => exact hs.imp (fun r => r _ _ _ _ z) id
    · rw [show (R.ok x e').bind (fun v e => (g e).bind fun vs e => .ok (v :: vs) e) = (g e').bind (fun vs e => .ok (x :: vs) e) from rfl] at q
      cases z2 : g e' with
      | ok y e2 => rw [z2] at q; exact fun u I2 H2 Gs2 F2 h2 _ => q _ _ _ _ _ h2.stp h2.w h2.ev h2.nd h2.fr
      | exc y e2 => rw [z2] at q; exact q
      | bad => rw [z2] at q; exact q
  | exc x e' => rw [z] at q; exact q
  | bad => rw [z] at q; exact q
theorem t_nil {Q : List V → Hp → Prop} (z : tA G EX true (fun e => .ok [] e) σ H Q) : tNil σ H Q := by
  obtain ⟨I, e, F, w, q⟩ := z
  try dsimp only at q
  exact q [] I H F [] (Stp.refl _) w .nil w.nd fun a h => nomatch h
theorem val_nil (h : SRep G I H v (.val a) F) : F = [] ∧ Rep G I v a := by cases h with | val h => exact ⟨rfl, h⟩
theorem W.freeze (w : W G I H σ e F) {i : Nat} {fs : List Nat} (h : getP e i fs = some s) (l : live s = true) (o : owned s = true) :
    ∃ u I' F', PathV G H σ i fs u ∧ Rep G I' u (frz s) ∧ Stp true I H F I' H F' ∧ W G I' H σ (setP e i fs (.val (frz s))) F' := by
  obtain ⟨u, A, Ft, B, p, hs, hF, put⟩ := w.put h (live_ne l) o
  have nd := w.nd
  rw [hF] at nd
  have frF : ∀ a ∈ Ft, I a = none := fun a ha => w.fr a (by rw [hF]; simp [ha])
  have out : ∀ a ∈ A ++ B, a ∉ Ft := fun a ha hf => by
    rcases List.mem_append.mp ha with q | q
    · exact (List.nodup_append.mp (List.nodup_append.mp nd).1).2.2 a q a hf rfl
    · exact (List.nodup_append.mp nd).2.2 a (List.mem_append_right _ hf) a q rfl
  have ex := merge_ex (H := H) frF
  have r := hs.freeze l frF
  have en := put (mergeI I H Ft) H (.val (frz s)) [] ex (fun _ _ => rfl) (.val r)
  refine ⟨u, mergeI I H Ft, A ++ B, p, r, ⟨ex, fun a o ho hf => ⟨ho, merge_out fun m => hf (by rw [hF]; simp [m])⟩, fun a o ho => ⟨o, ho⟩, fun a ha => .inl ?_, fun _ => Ex.refl _⟩, ⟨merge_in w.ex, by simpa using en, ?_, fun a ha => ?_⟩⟩
  · rw [hF]
    rcases List.mem_append.mp ha with q | q <;> simp [q]
  · exact nd.sublist ((List.sublist_append_left A Ft).append (List.Sublist.refl B))
  · rw [merge_out (out a ha)]
    refine w.fr a ?_
    rw [hF]
    rcases List.mem_append.mp ha with q | q <;> simp [q]
theorem t_nam {i : Nat} (z : tE G EX nc (fun e => readP e i []) σ H Q) : tVar i σ H Q := by
  obtain ⟨I, e, F, w, q⟩ := z
  try dsimp only at q
  unfold readP at q
  cases h : getP e i [] with
  | none => rw [h] at q; exact q.elim
  | some s =>
    rw [h] at q
    by_cases hv : ∃ p, s = .val p
    · obtain ⟨p, rfl⟩ := hv
      obtain ⟨u, A, Ft, B, ⟨v, hv, pth⟩, hs, _⟩ := w.get h (by simp)
      cases pth
      obtain ⟨_, r⟩ := val_nil hs
      exact ⟨u, hv, q u I H F [] (Stp.refl _) w (.sl (.val r)) w.nd fun a z => nomatch z⟩
    · have q' : PostE G EX nc (if live s then R.ok (.sl (.val (frz s))) (setP e i [] (.val (frz s))) else .bad) I H F σ Q := by
        cases s with
        | val p => exact absurd ⟨p, rfl⟩ hv
        | _ => exact q
      by_cases l : live s = true
      · rw [if_pos l] at q'
        have o : owned s = true := by
          cases s with
          | val p => exact absurd ⟨p, rfl⟩ hv
          | _ => rfl
        obtain ⟨u, I', F', ⟨v, hv, pth⟩, r, st, w'⟩ := w.freeze h l o
        cases pth
        exact ⟨u, hv, q' u I' H F' [] (st.weak (fun _ => rfl) fun _ h => h) w' (.sl (.val r)) w'.nd fun a z => nomatch z⟩
      · rw [if_neg l] at q'; exact q'.elim
theorem t_mov {i : Nat} (z : tE G EX nc (kMov i) σ H Q) : tVar i σ H Q := by
  obtain ⟨I, e, F, w, q⟩ := z
  try dsimp only at q
  unfold kMov at q
  cases h : e[i]? with
  | none => rw [h] at q; exact q.elim
  | some s =>
    rw [h] at q
    by_cases hv : ∃ p, s = .val p
    · obtain ⟨p, rfl⟩ := hv
      obtain ⟨v, F1, Fi, F2, hv, hs, _⟩ := w.env.at h (by simp)
      obtain ⟨_, r⟩ := val_nil hs
      exact ⟨v, hv, q v I H F [] (Stp.refl _) w (.sl (.val r)) w.nd fun a z => nomatch z⟩
    · have q' : PostE G EX nc (if live s then R.ok (.sl s) (e.set i .dead) else .bad) I H F σ Q := by
        cases s with
        | val p => exact absurd ⟨p, rfl⟩ hv
        | _ => exact q
      by_cases l : live s = true
      · rw [if_pos l] at q'
        obtain ⟨v, F1, Fi, F2, hv, hs, hF, put⟩ := w.env.at h (live_ne l)
        have en := put I H v .dead [] (Ex.refl _) (fun _ _ => rfl) .dead
        rw [set_same hv, List.append_nil] at en
        have nd := w.nd
        rw [hF] at nd
        have pm : (Fi ++ (F1 ++ F2)).Perm (F1 ++ Fi ++ F2) := by
          rw [← List.append_assoc]
          exact List.Perm.append_right F2 List.perm_append_comm
        have nd2 : (Fi ++ (F1 ++ F2)).Nodup := pm.nodup_iff.mpr nd
        have sub : ∀ a ∈ Fi ++ (F1 ++ F2), a ∈ F := fun a ha => by rw [hF]; exact pm.mem_iff.mp ha
        exact ⟨v, hv, q' v I H (F1 ++ F2) Fi ((Stp.refl nc).weak (fun h => h) sub) ⟨w.ex, en, (List.nodup_append.mp nd2).2.1, fun a ha => w.fr a (sub a (List.mem_append_right _ ha))⟩ (.sl hs) nd2 fun a ha => w.fr a (sub a (List.mem_append_left _ ha))⟩
      · rw [if_neg l] at q'; exact q'.elim
def tPl (G : Gr) (i : Nat) : List Nat → TE
  | [] => tVar i
  | f :: r => tFld G.K (tPl G i r) (G.an f)
def AttF (G : Gr) : Prop := ∀ c f, G.att c f = true → Cls G.K (G.cl c) ∧ NoAttr G.K (G.cl c) (G.an f)
theorem PathS.last : ∀ {fs : List Nat} {v u : V} {f : Nat}, f < ixB → PathS G H v (fs ++ [f]) u → ∃ a dx c gs, PathS G H v fs (.ref a) ∧ H a = some (.ins (G.cl c) dx gs) ∧ G.att c f = true ∧ gs.lookup (G.an f) = some u
  | [], _, _, _, _, .cons h t l p => by cases p; exact ⟨_, _, _, _, .nil, h, t, l⟩
  | [], _, _, _, hf, .ix _ hb _ _ => by omega
  | _ :: _, _, _, _, hf, .cons h t l p => by
    obtain ⟨a, dx, c, gs, h1, h2, h3, h4⟩ := p.last hf
    exact ⟨a, dx, c, gs, .cons h t l h1, h2, h3, h4⟩
  | _ :: _, _, _, _, hf, .ix h hb l p => by
    obtain ⟨a, dx, c, gs, h1, h2, h3, h4⟩ := p.last hf
    exact ⟨a, dx, c, gs, .ix h hb l h1, h2, h3, h4⟩
theorem pl_go (hA : AttF G) {i : Nat} : ∀ {r : List Nat} {u : V} {Q : VK}, (∀ f ∈ r, f < ixB) → PathV G H σ i r.reverse u → Q u H → tPl G i r σ H Q
  | [], u, Q, _, ⟨v, h, p⟩, q => by
    cases p
    exact ⟨u, h, q⟩
  | f :: r, u, Q, hb, ⟨v, h, p⟩, q => by
    rw [List.reverse_cons] at p
    obtain ⟨a, dx, c, gs, h1, h2, h3, h4⟩ := p.last (hb f List.mem_cons_self)
    obtain ⟨k1, k2⟩ := hA c f h3
    exact pl_go hA (i := i) (r := r) (u := .ref a) (fun f hf => hb f (List.mem_cons_of_mem _ hf)) ⟨v, h, h1⟩ ⟨a, G.cl c, dx, gs, u, rfl, h2, k1, k2, h4, q⟩
theorem t_plc (hA : AttF G) {i : Nat} {r : List Nat} (hb : ∀ f ∈ r, f < ixB) (z : tE G EX nc (kPlc i r.reverse) σ H Q) : tPl G i r σ H Q := by
  obtain ⟨I, e, F, w, q⟩ := z
  try dsimp only at q
  unfold kPlc at q
  cases h : getP e i r.reverse with
  | none => rw [h] at q; exact q.elim
  | some s =>
    rw [h] at q
    by_cases hd : s = .dead
    · subst hd; exact q.elim
    · have q' : PostE G EX nc (.ok (.pl i r.reverse) e) I H F σ Q := by
        cases s with
        | dead => exact absurd rfl hd
        | _ => exact q
      obtain ⟨u, A, Ft, B, p, hs, _⟩ := w.get h hd
      exact pl_go hA hb p (q' u I H F [] (Stp.refl _) w (.pl p) w.nd fun a z => nomatch z)
theorem t_rdp (hA : AttF G) {i : Nat} {r : List Nat} (hb : ∀ f ∈ r, f < ixB) (z : tE G EX nc (fun e => readP e i r.reverse) σ H Q) : tPl G i r σ H Q := by
  obtain ⟨I, e, F, w, q⟩ := z
  try dsimp only at q
  unfold readP at q
  cases h : getP e i r.reverse with
  | none => rw [h] at q; exact q.elim
  | some s =>
    rw [h] at q
    by_cases hv : ∃ p, s = .val p
    · obtain ⟨p, rfl⟩ := hv
      obtain ⟨u, A, Ft, B, pth, hs, _⟩ := w.get h (by simp)
      obtain ⟨_, rr⟩ := val_nil hs
      exact pl_go hA hb pth (q u I H F [] (Stp.refl _) w (.sl (.val rr)) w.nd fun a z => nomatch z)
    · have q' : PostE G EX nc (if live s then R.ok (.sl (.val (frz s))) (setP e i r.reverse (.val (frz s))) else .bad) I H F σ Q := by
        cases s with
        | val p => exact absurd ⟨p, rfl⟩ hv
        | _ => exact q
      by_cases l : live s = true
      · rw [if_pos l] at q'
        have o : owned s = true := by
          cases s with
          | val p => exact absurd ⟨p, rfl⟩ hv
          | _ => rfl
        obtain ⟨u, I', F', pth, rr, st, w'⟩ := w.freeze h l o
        exact pl_go hA hb pth (q' u I' H F' [] (st.weak (fun _ => rfl) fun _ h => h) w' (.sl (.val rr)) w'.nd fun a z => nomatch z)
      · rw [if_neg l] at q'; exact q'.elim
theorem t_gtv (hA : AttF G) {i : Nat} {r : List Nat} (hb : ∀ f ∈ r, f < ixB) (z : tE G EX nc (kGtv i r.reverse) σ H Q) : tPl G i r σ H Q := by
  obtain ⟨I, e, F, w, q⟩ := z
  try dsimp only at q
  unfold kGtv at q
  cases h : getP e i r.reverse with
  | none => rw [h] at q; exact q.elim
  | some s =>
    rw [h] at q
    cases s with
    | val p =>
      obtain ⟨u, A, Ft, B, pth, hs, _⟩ := w.get h (by simp)
      obtain ⟨_, rr⟩ := val_nil hs
      exact pl_go hA hb pth (q u I H F [] (Stp.refl _) w (.sl (.val rr)) w.nd fun a z => nomatch z)
    | _ => exact q.elim
theorem t_con {p : PV} {v : V} (h : ∀ I, Rep G I v p) (z : tE G EX nc (fun e => .ok (.sl (.val p)) e) σ H Q) : tC v σ H Q := by
  obtain ⟨I, e, F, w, q⟩ := z
  try dsimp only at q
  exact q v I H F [] (Stp.refl _) w (.sl (.val (h I))) w.nd fun a z => nomatch z
theorem t_fld (hA : AttF G) {f : FE} {k : Nat} (hb : k < ixB) (z : tE G EX nc (fun e => (f e).bind (kFld k)) σ H Q) : tFld G.K (tE G EX nc f) (G.an k) σ H Q := by
  refine t_un (t' := fun x H1 Q => ∃ a C dx fs v, x = .ref a ∧ H1 a = some (.ins C dx fs) ∧ Cls G.K C ∧ NoAttr G.K C (G.an k) ∧ fs.lookup (G.an k) = some v ∧ Q v H1) (fun {I H F I1 H1 F1 Fs v x e1 Q} h q => ?_) z
  unfold kFld at q
  cases x with
  | pl _ _ => exact q.elim
  | sl s =>
    dsimp only at q
    cases z : getS s [k] with
    | none => rw [z] at q; exact q.elim
    | some t =>
      rw [z] at q
      cases t with
      | val p =>
        obtain ⟨F1, F2, _, hv, _⟩ := h.ev.hd
        cases hv with
        | sl hs =>
          obtain ⟨u, A, Ft, B, pth, hu, _⟩ := hs.path h.w.ex z
          obtain ⟨_, r⟩ := val_nil hu
          cases pth with
          | cons h0 t l p =>
            cases p
            obtain ⟨k1, k2⟩ := hA _ _ t
            exact ⟨_, _, _, _, _, rfl, h0, k1, k2, l, h.value q r⟩
          | ix _ hb' _ _ => omega
      | _ => exact q.elim
theorem outO_ok {o : Option Slot} {EX : WX} (q : PostE G EX n (outO o e1) I H F σ Q) : ∃ s, o = some s ∧ PostE G EX n (.ok (.sl s) e1) I H F σ Q := by
  cases o with
  | none => exact q.elim
  | some s => exact ⟨s, rfl, q⟩
theorem t_op1 {f : FE} {p : P1} (hp : okP1 G p) (z : tE G EX nc (fun e => (f e).bind (kOp1 p)) σ H Q) : tUn (r1 G.K G.cl p) (tE G EX nc f) σ H Q := by
  refine t_un (t' := r1 G.K G.cl p) (fun {I H F I1 H1 F1 Fs v x e1 Q} h q => ?_) z
  unfold kOp1 at q
  cases z : valOf e1 x with
  | none => rw [z] at q; exact q.elim
  | some a =>
    rw [z] at q
    obtain ⟨s, hs, q⟩ := outO_ok q
    obtain ⟨F1, F2, _, hv, _⟩ := h.ev.hd
    exact val_op1 hp h.w.ex hs (hv.b h.w z) (h.fin q)
def rAny2 (K : PySem.W.Frag) (w : World) (p : P2) : R2 := match binOf p, cmpOf p with
  | some _, _ => rBin K p
  | none, some _ => rCmp K w p
  | none, none => r2 K w p
theorem val_any2 {p : P2} (ex : Ex I H) (q : op2 p a b = some s) (ha : BRep G I H v a) (hb : BRep G I H u b) (f : Fin G I H s Q) : rAny2 G.K G.w p v u H Q := by
  unfold rAny2
  cases h1 : binOf p with
  | some o => exact val_bin h1 ex q ha hb f
  | none =>
    cases h2 : cmpOf p with
    | some o => exact val_cmp h2 ex q ha hb f
    | none => exact val_op2 h1 h2 ex q ha hb f
theorem t_op2 {f g : FE} {p : P2} (hs : Roots f ∨ m = true) (z : tE G EX (n && m) (fun e => (f e).bind fun x e => (g e).bind (kOp2 p x)) σ H Q) : tOp (rAny2 G.K G.w p) (tE G EX n f) (tE G EX m g) σ H Q := by
  refine t_bi (t' := rAny2 G.K G.w p) hs (fun {I H F I1 H1 F1 Fs v u x y e1 Q} h q => ?_) z
  unfold kOp2 at q
  cases z1 : valOf e1 x with
  | none => rw [z1] at q; exact q.elim
  | some a =>
    cases z2 : valOf e1 y with
    | none => rw [z1, z2] at q; exact q.elim
    | some b =>
      rw [z1, z2] at q
      obtain ⟨s, hs, q⟩ := outO_ok q
      obtain ⟨F1, F2, _, hv, hr⟩ := h.ev.hd
      obtain ⟨F3, F4, _, hu, _⟩ := hr.hd
      exact val_any2 h.w.ex hs (hv.b h.w z1) (hu.b h.w z2) (h.fin q)
theorem t_chn {f g h : FE} {p p' : P2} {l : Bool} {o o' : CmpOp} (hp : cmpOf p = some o) (hp' : cmpOf p' = some o') (hs : Roots f ∨ m = true) (hs2 : Roots g ∨ l = true)
    (z : tE G EX (n && m && l) (fun e => (f e).bind fun u e => (g e).bind fun v e => (kChn p u v e).bind fun k e => match k with
      | true => (h e).bind (kOp2 p' v)
      | false => .ok (.sl (.val (.bl false))) e) σ H Q) : tChain (rCmp G.K G.w p) (rCmp G.K G.w p') (tE G EX n f) (tE G EX m g) (tE G EX l h) σ H Q := by
  obtain ⟨I, e, F, w, q⟩ := z
  try dsimp only at q
  refine (Hld.start w).eval (m := n) (fun x hx => nomatch hx) ?_
  cases z : f e with
  | exc x e' => rw [z] at q; exact q
  | bad => rw [z] at q; exact q
  | ok x e1 =>
    rw [z] at q
    refine fun v I1 H1 Gs F1 h1 => h1.eval (m := m) (fun x' hx => ?_) ?_
    · rw [List.mem_singleton.mp hx]
      cases x with
      | sl s => trivial
      | pl i fs => exact hs.imp (fun r => r _ _ _ _ z) id
    · rw [show (R.ok x e1).bind (fun u e => (g e).bind fun v e => (kChn p u v e).bind fun k e => match k with
        | true => (h e).bind (kOp2 p' v)
        | false => .ok (.sl (.val (.bl false))) e) = (g e1).bind (fun v e => (kChn p x v e).bind fun k e => match k with
        | true => (h e).bind (kOp2 p' v)
        | false => .ok (.sl (.val (.bl false))) e) from rfl] at q
      cases z2 : g e1 with
      | exc y e2 => rw [z2] at q; exact q
      | bad => rw [z2] at q; exact q
      | ok y e2 =>
        rw [z2] at q
        refine fun u I2 H2 Gs2 F2 h2 => ?_
        rw [show (R.ok y e2).bind (fun v e => (kChn p x v e).bind fun k e => match k with
          | true => (h e).bind (kOp2 p' v)
          | false => .ok (.sl (.val (.bl false))) e) = (kChn p x y e2).bind (fun k e => match k with
          | true => (h e).bind (kOp2 p' y)
          | false => .ok (.sl (.val (.bl false))) e) from rfl] at q
        have q0 := q
        unfold kChn at q
        cases z3 : valOf e2 x with
        | none => rw [z3] at q; exact q.elim
        | some a =>
          cases z4 : valOf e2 y with
          | none => rw [z3, z4] at q; exact q.elim
          | some b =>
            rw [z3, z4] at q
            dsimp only at q
            cases z5 : op2 p a b with
            | none => rw [z5] at q; exact q.elim
            | some s =>
              rw [z5] at q
              cases s with
              | val r =>
                cases r with
                | bl k =>
                  obtain ⟨F3, F4, _, hv, hr⟩ := h2.ev.hd
                  obtain ⟨F5, F6, _, hu, _⟩ := hr.hd
                  refine val_cmp hp h2.w.ex z5 (hv.b h2.w z3) (hu.b h2.w z4) fun w3 I3 H3 Fs3 new hw => ?_
                  obtain ⟨_, hw⟩ := val_nil hw
                  cases hw
                  refine ⟨k, rfl, ?_⟩
                  have h3 := h2.grow new
                  cases k with
                  | false => exact (h3.fin (EX := EX) (s := .val (.bl false)) (by
                      refine fun v' I' H' F' Fs' a b c d e => q v' I' H' F' Fs' (a.weak ?_ fun _ h => h) b c d e
                      intro hh
                      simp only [Bool.and_eq_true] at hh
                      simp [hh.1.1, hh.1.2])).val h3.w.ex (.bl false)
                  | true =>
                    have q2 : PostE G EX (n && m && l) ((h e2).bind (kOp2 p' y)) I H F σ Q := q
                    obtain ⟨Gs3, h3⟩ := h3.tail
                    refine h3.eval (m := l) (fun x' hx => ?_) ?_
                    · rw [List.mem_singleton.mp hx]
                      cases y with
                      | sl s => trivial
                      | pl i fs => exact hs2.imp (fun r => r _ _ _ _ z2) id
                    · cases z6 : h e2 with
                      | exc y e3 => rw [z6] at q2; exact q2
                      | bad => rw [z6] at q2; exact q2
                      | ok t e3 =>
                        rw [z6] at q2
                        refine fun w' I4 H4 Gs4 F4 h4 => ?_
                        have q3 : PostE G EX (n && m && l) (kOp2 p' y t e3) I H F σ Q := q2
                        unfold kOp2 at q3
                        cases z7 : valOf e3 y with
                        | none => rw [z7] at q3; exact q3.elim
                        | some b' =>
                          cases z8 : valOf e3 t with
                          | none => rw [z7, z8] at q3; exact q3.elim
                          | some c' =>
                            rw [z7, z8] at q3
                            obtain ⟨s, hs3, q3⟩ := outO_ok q3
                            obtain ⟨_, _, _, hu, hr⟩ := h4.ev.hd
                            obtain ⟨_, _, _, ht, _⟩ := hr.hd
                            exact val_cmp hp' h4.w.ex hs3 (hu.b h4.w z7) (ht.b h4.w z8) (h4.fin q3)
                | _ => exact q.elim
              | _ => exact q.elim
end
end RF
set_option maxHeartbeats 1000000
namespace RF
open PySem PySem.Spec PyProof.Rows L2 Evl
section
variable {G : Gr} {EX : WX} {n m l nc : Bool} {I I1 I' H H1 H' : Hp} {F F1 F' Fs Gs : List Addr} {σ : L2.St} {e e1 e' : Env} {v u : V} {x y : EV} {vs : List V} {xs : List EV} {ps : List PV} {s : Slot} {a b : PV} {Q : VK}
theorem Stp.less (st : Stp n I H F I' H' F') (h : m = true → n = true) : Stp m I H F I' H' F' := st.weak h fun _ h => h
theorem PostE.less {r : R EV} (q : PostE G EX m r I H F σ Q) (h : m = true → n = true) : PostE G EX n r I H F σ Q := by
  cases r with
  | ok x e' => exact fun v I' H' F' Fs st => q v I' H' F' Fs (st.less h)
  | exc x e' => exact q
  | bad => exact q
theorem Hld.nil (h : Hld G n I H F σ vs xs e1 I1 H1 Fs F1) : Hld G n I H F σ [] [] e1 I1 H1 [] F1 :=
  ⟨h.stp.weak (fun z => z) fun a ha => List.mem_append_right _ (by simpa using ha), h.w, .nil, h.w.nd, fun a z => nomatch z⟩
theorem Hld.yield (h : Hld G n I H F σ [v] [x] e1 I1 H1 Fs F1) (q : PostE G EX n (.ok x e1) I H F σ Q) : Q v H1 := by
  obtain ⟨A, B, rfl, hv, r⟩ := h.ev.hd
  cases r
  have st := h.stp
  have nd := h.nd
  have fr := h.fr
  rw [List.append_nil] at st nd fr
  exact q v I1 H1 F1 A st h.w hv nd fr
theorem Hld.then {g : FE} (h : Hld G n I H F σ vs xs e1 I1 H1 Fs F1) (q : PostE G EX (n && m) ((g e1).bind onlySl) I H F σ Q) : tE G EX m g σ H1 Q := by
  refine h.nil.eval (m := m) (fun x hx => nomatch hx) ?_
  cases z : g e1 with
  | exc y e2 => rw [z] at q; exact q
  | bad => rw [z] at q; exact q
  | ok y e2 =>
    rw [z] at q
    cases y with
    | sl s => exact fun v I' H' Gs F' h2 => h2.yield q
    | pl _ _ => exact q.elim
theorem bool_sl {b : Bool} (h : boolOf x = some b) : x = .sl (.val (.bl b)) := by
  unfold boolOf at h
  split at h
  · cases h; rfl
  · cases h
theorem EvR.bool {b : Bool} (h : EvR G I H σ v x F) (hb : boolOf x = some b) : v = .bl b := by
  rw [bool_sl hb] at h
  cases h with
  | sl h => obtain ⟨_, r⟩ := val_nil h; cases r; rfl
theorem t_andV {f g : FE} (z : tE G EX (n && m) (fun e => (f e).bind fun v e => match boolOf v with
    | some true => (g e).bind onlySl
    | some false => .ok (.sl (.val (.bl false))) e
    | none => .bad) σ H Q) : tAndV (tE G EX n f) (tE G EX m g) σ H Q := by
  obtain ⟨I, e, F, w, q⟩ := z
  try dsimp only at q
  refine (Hld.start w).eval (m := n) (fun x hx => nomatch hx) ?_
  cases z : f e with
  | exc x e' => rw [z] at q; exact q
  | bad => rw [z] at q; exact q
  | ok x e1 =>
    rw [z] at q
    refine fun v I1 H1 Gs F1 h1 => ?_
    obtain ⟨_, _, _, hv, _⟩ := h1.ev.hd
    have q' : PostE G EX (n && m) (match boolOf x with
      | some true => (g e1).bind onlySl
      | some false => .ok (.sl (.val (.bl false))) e1
      | none => .bad) I H F σ Q := q
    cases hb : boolOf x with
    | none => rw [hb] at q'; exact q'.elim
    | some b =>
      rw [hb] at q'
      refine ⟨b, hv.bool hb, ?_⟩
      cases b with
      | true => exact h1.then q'
      | false => exact h1.value (q'.less (fun h => by simp at h; simp [h])) (.bl false)
theorem t_orV {f g : FE} (z : tE G EX (n && m) (fun e => (f e).bind fun v e => match boolOf v with
    | some false => (g e).bind onlySl
    | some true => .ok (.sl (.val (.bl true))) e
    | none => .bad) σ H Q) : tOrV (tE G EX n f) (tE G EX m g) σ H Q := by
  obtain ⟨I, e, F, w, q⟩ := z
  try dsimp only at q
  refine (Hld.start w).eval (m := n) (fun x hx => nomatch hx) ?_
  cases z : f e with
  | exc x e' => rw [z] at q; exact q
  | bad => rw [z] at q; exact q
  | ok x e1 =>
    rw [z] at q
    refine fun v I1 H1 Gs F1 h1 => ?_
    obtain ⟨_, _, _, hv, _⟩ := h1.ev.hd
    have q' : PostE G EX (n && m) (match boolOf x with
      | some false => (g e1).bind onlySl
      | some true => .ok (.sl (.val (.bl true))) e1
      | none => .bad) I H F σ Q := q
    cases hb : boolOf x with
    | none => rw [hb] at q'; exact q'.elim
    | some b =>
      rw [hb] at q'
      refine ⟨b, hv.bool hb, ?_⟩
      cases b with
      | false => exact h1.then q'
      | true => exact h1.value (q'.less (fun h => by simp at h; simp [h])) (.bl true)
theorem t_ife {c : FT} {f g : FE} (z : tE G EX (n && m && l) (fun e => (c e).bind fun k e => match k with
    | true => (f e).bind onlySl
    | false => (g e).bind onlySl) σ H Q) : tIf (tT G EX n c) (tE G EX m f) (tE G EX l g) σ H Q := by
  obtain ⟨I, e, F, w, q⟩ := z
  try dsimp only at q
  refine (Hld.start w).test (m := n) (fun x hx => nomatch hx) ?_
  cases z : c e with
  | exc x e' => rw [z] at q; exact q
  | bad => rw [z] at q; exact q
  | ok k e1 =>
    rw [z] at q
    refine fun I1 H1 F1 h1 => ?_
    cases k with
    | true =>
      have q' : PostE G EX (n && m && l) ((f e1).bind onlySl) I H F σ Q := q
      exact h1.then (q'.less fun h => by simp only [Bool.and_eq_true] at h; simp [h.1])
    | false =>
      have q' : PostE G EX (n && m && l) ((g e1).bind onlySl) I H F σ Q := q
      exact h1.then (q'.less fun h => by simp only [Bool.and_eq_true] at h; simp [h.1.1, h.2])
theorem EvRs.up (w : W G I1 H1 σ e F1) {I2 : Hp} (ex : Ex I1 I2) (k : ∀ a ∈ Gs, I2 a = H1 a) : ∀ {vs : List V} {xs : List EV} {F : List Addr} {ps : List PV}, EvRs G I1 H1 σ vs xs F → upsOf e xs = some ps → (∀ a ∈ F, a ∈ Gs) → RepL G I2 vs ps
  | _, _, _, _, .nil, q, _ => by cases q; exact .nil
  | _, _, _, _, @EvRs.cons _ _ _ _ v x vs xs F1 F2 h r, q, hs => by
    rw [upsOf] at q
    cases z1 : upOf e x with
    | none => rw [z1] at q; cases q
    | some p =>
      cases z2 : upsOf e xs with
      | none => rw [z1, z2] at q; cases q
      | some ps =>
        rw [z1, z2] at q
        cases q
        refine .cons ?_ (EvRs.up w ex k r z2 fun a ha => hs a (List.mem_append_right _ ha))
        cases h with
        | sl hs' =>
          rw [upOf] at z1
          split at z1
          · rename_i l
            cases z1
            exact hs'.frozen ex l fun a ha => k a (hs a (List.mem_append_left _ ha))
          · cases z1
        | @pl i fs hp =>
          rw [upOf] at z1
          cases z3 : getP e i fs with
          | none => rw [z3] at z1; cases z1
          | some t =>
            rw [z3] at z1
            cases t with
            | val p' =>
              cases z1
              obtain ⟨u, A, Ft, B, hp', hu, _⟩ := w.get z3 (by simp)
              rw [hp.det hp']
              exact (val_nil hu).2.mono ex
            | _ => cases z1
theorem Hld.upx (h : Hld G n I H F σ vs xs e1 I1 H1 Fs F1) (q : upsOf e1 xs = some ps) : ∃ I2, Ex I1 I2 ∧ Hld G n I H F σ [] [] e1 I2 H1 [] F1 ∧ RepL G I2 vs ps := by
  have ex : Ex I1 (mergeI I1 H1 Fs) := merge_ex h.fr
  have out : ∀ a ∈ F1, a ∉ Fs := fun a ha hf => (List.nodup_append.mp h.nd).2.2 a hf a ha rfl
  refine ⟨mergeI I1 H1 Fs, ex, ⟨⟨h.stp.ex.trans ex, fun a o ho hf => ?_, h.stp.dom, fun a ha => h.stp.own a (List.mem_append_right _ (by simpa using ha)), h.stp.keep⟩, ?_, .nil, h.w.nd, fun a z => nomatch z⟩, EvRs.up h.w ex (Gs := Fs) (fun a ha => merge_at ha) h.ev q fun _ h => h⟩
  · obtain ⟨k1, k2⟩ := h.stp.old a o ho hf
    have na : a ∉ Fs := fun m => (h.stp.own a (List.mem_append_left _ m)).elim hf fun z => by rw [ho] at z; cases z
    exact ⟨k1, (merge_out na).trans k2⟩
  · exact h.w.step ex (merge_in h.w.ex) (fun _ _ => rfl) fun a ha => (merge_out (out a ha)).trans (h.w.fr a ha)
theorem Hld.up (h : Hld G n I H F σ vs xs e1 I1 H1 Fs F1) (q : upsOf e1 xs = some ps) : ∃ I2, Hld G n I H F σ [] [] e1 I2 H1 [] F1 ∧ RepL G I2 vs ps := by
  obtain ⟨I2, _, h2, r⟩ := h.upx q
  exact ⟨I2, h2, r⟩
theorem t_tup {f : FA} (z : tE G EX nc (fun e => (f e).bind kTup) σ H Q) : tTup (tA G EX nc f) σ H Q := by
  refine t_args (t' := fun vs H1 Q => vs.length ≤ sizeLine ∧ ∀ p, H1 p = none → Q (.ref p) (upd H1 p (.tup vs))) (fun {I H F I1 H1 F1 Fs vs xs e1 Q} h q => ?_) z
  unfold kTup at q
  cases z : upsOf e1 xs with
  | none => rw [z] at q; exact q.elim
  | some ps =>
    rw [z] at q
    dsimp only at q
    by_cases c : ps.length ≤ lim
    · rw [if_pos c] at q
      obtain ⟨I2, h2, r⟩ := h.up z
      exact ⟨by rw [r.length]; exact Nat.le_trans c lim_le, fun p hp => (h2.fin q).tup h2.w.ex r hp⟩
    · rw [if_neg c] at q; exact q.elim
theorem t_lst {f : FA} (z : tE G EX nc (fun e => (f e).bind kLst) σ H Q) : tLst (tA G EX nc f) σ H Q := by
  refine t_args (t' := fun vs H1 Q => vs.length ≤ sizeLine ∧ ∀ p, H1 p = none → Q (.ref p) (upd H1 p (.lst vs))) (fun {I H F I1 H1 F1 Fs vs xs e1 Q} h q => ?_) z
  unfold kLst at q
  cases z : upsOf e1 xs with
  | none => rw [z] at q; exact q.elim
  | some ps =>
    rw [z] at q
    dsimp only at q
    by_cases c : ps.length ≤ lim
    · rw [if_pos c] at q
      obtain ⟨I2, h2, r⟩ := h.up z
      exact ⟨by rw [r.length]; exact Nat.le_trans c lim_le, fun p hp => (h2.fin q).lst h2.w.ex r hp⟩
    · rw [if_neg c] at q; exact q.elim
def rCutP (K : PySem.W.Frag) : V → Option Int → Option Int → Hp → VK → Prop := fun x lo hi H Q => rSlA K x lo hi H Q ∨ rSlL K x lo hi H Q
theorem sl_cut {X : Cx} : SlR X (rCutP X.K) := sl_tupA.or sl_list
theorem cut_rep {vs : List V} {lo hi : Option Int} (r : RepL G I vs ps) : RepL G I (cutV vs lo hi) (cutP ps lo hi) := by
  unfold cutV cutP
  rw [r.length]
  exact (r.drop _).take _
theorem val_cut {lo hi : Option Int} (ex : Ex I H) (q : cutO (some a) lo hi = some s) (ha : BRep G I H v a) (f : Fin G I H s Q) : rCutP G.K v lo hi H Q := by
  cases a with
  | tup ps =>
    cases q
    obtain ⟨p, vs, rfl, hi', h, r⟩ := ha.to_tup ex
    refine .inl ⟨p, vs, rfl, h, fun c => ?_, fun _ p hp => f.tup ex (cut_rep r) hp⟩
    have e : cutP ps lo hi = ps := by
      unfold cutP
      rw [← r.length, c.1, c.2, r.length]
      simp
    rw [e] at f
    exact f.val ex (.tup hi' r)
  | lst ps =>
    cases q
    obtain ⟨p, vs, rfl, h, r⟩ := ha.to_lst ex
    exact .inr ⟨p, vs, rfl, sq_of h, fun p hp => f.lst ex (cut_rep r) hp⟩
  | _ => cases q
theorem t_prt {f : FE} {Q : Option Int → Hp → Prop} (z : tT G EX nc (fun e => (f e).bind kPrt) σ H Q) : tPart (tE G EX nc f) σ H Q := by
  obtain ⟨I, e, F, w, q⟩ := z
  try dsimp only at q
  refine (Hld.start w).eval (m := nc) (fun x hx => nomatch hx) ?_
  cases z : f e with
  | exc x e' => rw [z] at q; exact q
  | bad => rw [z] at q; exact q
  | ok x e1 =>
    rw [z] at q
    refine fun v I1 H1 Gs F1 h1 => ?_
    have q' : PostT G EX nc (kPrt x e1) I H F σ Q := q
    unfold kPrt at q'
    cases z1 : valOf e1 x with
    | none => rw [z1] at q'; exact q'.elim
    | some p =>
      rw [z1] at q'
      obtain ⟨_, _, _, hv, _⟩ := h1.ev.hd
      cases p with
      | int i => exact ⟨i, (hv.b h1.w z1).to_int, q' I1 H1 F1 h1.nil.stp h1.w⟩
      | _ => exact q'.elim
theorem t_noprt {Q : Option Int → Hp → Prop} (z : tT G EX nc (fun e => .ok none e) σ H Q) : tNoPart σ H Q := by
  obtain ⟨I, e, F, w, q⟩ := z
  exact q I H F (Stp.refl _) w
theorem t_slc {f : FE} {g h : Env → R (Option Int)} (hs : Roots f ∨ (m && l) = true) (z : tE G EX (n && m && l) (fun e => (f e).bind fun u e => (g e).bind fun a e => (h e).bind fun b e => outO (cutO (valOf e u) a b) e) σ H Q) :
    tSl (rCutP G.K) (tE G EX n f) (tT G EX m g) (tT G EX l h) σ H Q := by
  obtain ⟨I, e, F, w, q⟩ := z
  try dsimp only at q
  refine (Hld.start w).eval (m := n) (fun x hx => nomatch hx) ?_
  cases z : f e with
  | exc x e' => rw [z] at q; exact q
  | bad => rw [z] at q; exact q
  | ok x e1 =>
    rw [z] at q
    have st : ∀ k : Bool, ((m && l) = true → k = true) → StayP k x := fun k hk => by
      cases x with
      | sl s => trivial
      | pl i fs => exact hs.imp (fun r => r _ _ _ _ z) hk
    refine fun v I1 H1 Gs F1 h1 => h1.test (m := m) (fun x' hx => ?_) ?_
    · rw [List.mem_singleton.mp hx]
      exact st m fun k => by simp only [Bool.and_eq_true] at k; exact k.1
    · rw [show (R.ok x e1).bind (fun u e => (g e).bind fun a e => (h e).bind fun b e => outO (cutO (valOf e u) a b) e) = (g e1).bind (fun a e => (h e).bind fun b e => outO (cutO (valOf e x) a b) e) from rfl] at q
      cases z2 : g e1 with
      | exc x e' => rw [z2] at q; exact q
      | bad => rw [z2] at q; exact q
      | ok lo e2 =>
        rw [z2] at q
        refine fun I2 H2 F2 h2 => h2.test (m := l) (fun x' hx => ?_) ?_
        · rw [List.mem_singleton.mp hx]
          exact st l fun k => by simp only [Bool.and_eq_true] at k; exact k.2
        · rw [show (R.ok lo e2).bind (fun a e => (h e).bind fun b e => outO (cutO (valOf e x) a b) e) = (h e2).bind (fun b e => outO (cutO (valOf e x) lo b) e) from rfl] at q
          cases z3 : h e2 with
          | exc x e' => rw [z3] at q; exact q
          | bad => rw [z3] at q; exact q
          | ok hi e3 =>
            rw [z3] at q
            refine fun I3 H3 F3 h3 => ?_
            have q' : PostE G EX (n && m && l) (outO (cutO (valOf e3 x) lo hi) e3) I H F σ Q := q
            obtain ⟨s, hs, q'⟩ := outO_ok q'
            cases z4 : valOf e3 x with
            | none => rw [z4] at hs; cases hs
            | some p =>
              rw [z4] at hs
              obtain ⟨_, _, _, hv, _⟩ := h3.ev.hd
              exact val_cut h3.w.ex hs (hv.b h3.w z4) (h3.fin q')
theorem val_tru {k : Bool} (ex : Ex I H) (q : truV a = some k) (ha : BRep G I H v a) : TruV G.K v H k := by
  cases a with
  | non => cases q; rw [ha.to_non]; rfl
  | bl b => cases q; rw [ha.to_bl]; rfl
  | int b => cases q; rw [ha.to_int]; rfl
  | str y =>
    rw [ha.to_str]
    have q' : (if y.length ≤ 1000000 then some (y.length != 0) else none) = some k := q
    by_cases c : y.length ≤ 1000000
    · rw [if_pos c] at q'
      cases q'
      refine ⟨Nat.le_trans c (by rw [sizeLine_eq]; decide), ?_⟩
      simp [bne, Bool.beq_eq_decide_eq]
    · rw [if_neg c] at q'; cases q'
  | tup ps =>
    cases q
    obtain ⟨p, vs, rfl, hi', h, r⟩ := ha.to_tup ex
    refine .inr (.inl ⟨vs, h, ?_⟩)
    cases r <;> rfl
  | lst ps =>
    cases q
    obtain ⟨p, vs, rfl, h, r⟩ := ha.to_lst ex
    refine .inl ⟨vs, sq_of h, ?_⟩
    cases r <;> rfl
  | xls ps =>
    cases q
    obtain ⟨p, vs, rfl, h, r⟩ := ha.to_xls ex
    refine .inl ⟨vs, h, ?_⟩
    cases r <;> rfl
  | dic _ => cases q
  | ins _ _ => cases q
theorem t_tru {f : FE} {Q : Bool → Hp → Prop} (z : tT G EX nc (fun e => (f e).bind kTru) σ H Q) : tE G EX nc f σ H fun x H' => ∃ k, TruV G.K x H' k ∧ Q k H' := by
  obtain ⟨I, e, F, w, q⟩ := z
  try dsimp only at q
  refine (Hld.start w).eval (m := nc) (fun x hx => nomatch hx) ?_
  cases z : f e with
  | exc x e' => rw [z] at q; exact q
  | bad => rw [z] at q; exact q
  | ok x e1 =>
    rw [z] at q
    refine fun v I1 H1 Gs F1 h1 => ?_
    have q' : PostT G EX nc (kTru x e1) I H F σ Q := q
    unfold kTru at q'
    cases z1 : valOf e1 x with
    | none => rw [z1] at q'; exact q'.elim
    | some p =>
      rw [z1] at q'
      dsimp only at q'
      obtain ⟨_, _, _, hv, _⟩ := h1.ev.hd
      cases z2 : truV p with
      | none => rw [z2] at q'; exact q'.elim
      | some k =>
        rw [z2] at q'
        exact ⟨k, val_tru h1.w.ex z2 (hv.b h1.w z1), q' I1 H1 F1 h1.nil.stp h1.w⟩
theorem t_bol {f : FE} {Q : Bool → Hp → Prop} (z : tT G EX nc (fun e => (f e).bind kBol) σ H Q) : tTest (tE G EX nc f) σ H Q := by
  obtain ⟨I, e, F, w, q⟩ := z
  try dsimp only at q
  refine (Hld.start w).eval (m := nc) (fun x hx => nomatch hx) ?_
  cases z : f e with
  | exc x e' => rw [z] at q; exact q
  | bad => rw [z] at q; exact q
  | ok x e1 =>
    rw [z] at q
    refine fun v I1 H1 Gs F1 h1 => ?_
    have q' : PostT G EX nc (kBol x e1) I H F σ Q := q
    unfold kBol at q'
    obtain ⟨_, _, _, hv, _⟩ := h1.ev.hd
    cases z1 : boolOf x with
    | none => rw [z1] at q'; exact q'.elim
    | some b =>
      rw [z1] at q'
      exact ⟨b, hv.bool z1, q' I1 H1 F1 h1.nil.stp h1.w⟩
theorem t_not {c : FT} {Q : Bool → Hp → Prop} (z : tT G EX nc (fun e => (c e).bind fun k e => .ok (!k) e) σ H Q) : tNot (tT G EX nc c) σ H Q := by
  obtain ⟨I, e, F, w, q⟩ := z
  try dsimp only at q
  refine ⟨I, e, F, w, ?_⟩
  cases z : c e with
  | exc x e' => rw [z] at q; exact q
  | bad => rw [z] at q; exact q
  | ok x e1 => rw [z] at q; exact q
theorem PostT.less {α : Type} {r : R α} {Q : α → Hp → Prop} (q : PostT G EX m r I H F σ Q) (h : m = true → n = true) : PostT G EX n r I H F σ Q := by
  cases r with
  | ok x e' => exact fun I' H' F' st => q I' H' F' (st.less h)
  | exc x e' => exact q
  | bad => exact q
theorem Hld.thenT {c : FT} {Q : Bool → Hp → Prop} (h : Hld G n I H F σ vs xs e1 I1 H1 Fs F1) (q : PostT G EX (n && m) (c e1) I H F σ Q) : tT G EX m c σ H1 Q := by
  refine h.nil.test (m := m) (fun x hx => nomatch hx) ?_
  cases z : c e1 with
  | exc y e2 => rw [z] at q; exact q
  | bad => rw [z] at q; exact q
  | ok y e2 =>
    rw [z] at q
    exact fun I' H' F' h2 => q I' H' F' h2.stp h2.w
theorem t_and {c d : FT} {Q : Bool → Hp → Prop} (z : tT G EX (n && m) (fun e => (c e).bind fun k e => match k with
    | true => d e
    | false => .ok false e) σ H Q) : tAnd (tT G EX n c) (tT G EX m d) σ H Q := by
  obtain ⟨I, e, F, w, q⟩ := z
  try dsimp only at q
  refine (Hld.start w).test (m := n) (fun x hx => nomatch hx) ?_
  cases z : c e with
  | exc x e' => rw [z] at q; exact q
  | bad => rw [z] at q; exact q
  | ok k e1 =>
    rw [z] at q
    refine fun I1 H1 F1 h1 => ?_
    cases k with
    | true => exact h1.thenT q
    | false =>
      have q' : PostT G EX (n && m) (R.ok false e1) I H F σ Q := q
      exact q' I1 H1 F1 (h1.stp.less fun h => by simp only [Bool.and_eq_true] at h; simp [h.1]) h1.w
theorem t_or {c d : FT} {Q : Bool → Hp → Prop} (z : tT G EX (n && m) (fun e => (c e).bind fun k e => match k with
    | true => .ok true e
    | false => d e) σ H Q) : tOr (tT G EX n c) (tT G EX m d) σ H Q := by
  obtain ⟨I, e, F, w, q⟩ := z
  try dsimp only at q
  refine (Hld.start w).test (m := n) (fun x hx => nomatch hx) ?_
  cases z : c e with
  | exc x e' => rw [z] at q; exact q
  | bad => rw [z] at q; exact q
  | ok k e1 =>
    rw [z] at q
    refine fun I1 H1 F1 h1 => ?_
    cases k with
    | false => exact h1.thenT q
    | true =>
      have q' : PostT G EX (n && m) (R.ok true e1) I H F σ Q := q
      exact q' I1 H1 F1 (h1.stp.less fun h => by simp only [Bool.and_eq_true] at h; simp [h.1]) h1.w
end
end RF
set_option maxHeartbeats 1000000
namespace RF
open PySem PySem.Spec PyProof.Rows L2 Evl
inductive SReps (G : Gr) (I H : Hp) : List V → List Slot → List Addr → Prop
  | nil : SReps G I H [] [] []
  | cons {v : V} {s : Slot} {vs : List V} {ss : List Slot} {F1 F2 : List Addr} (h : SRep G I H v s F1) (r : SReps G I H vs ss F2) : SReps G I H (v :: vs) (s :: ss) (F1 ++ F2)
inductive Args (G : Gr) (I H : Hp) (σ : L2.St) (e : Env) : List V → List (Option (Nat × List Nat)) → List Slot → List Addr → Prop
  | nil : Args G I H σ e [] [] [] []
  | free {v : V} {s : Slot} {vs : List V} {os : List (Option (Nat × List Nat))} {ss : List Slot} {F1 F2 : List Addr} (h : SRep G I H v s F1) (r : Args G I H σ e vs os ss F2) : Args G I H σ e (v :: vs) (none :: os) (s :: ss) (F1 ++ F2)
  | own {v : V} {s : Slot} {i : Nat} {fs : List Nat} {vs : List V} {os : List (Option (Nat × List Nat))} {ss : List Slot} {F : List Addr} (p : PathV G H σ i fs v) (g : getP e i fs = some s) (o : owned s = true) (d : s ≠ .dead) (r : Args G I H σ e vs os ss F) :
      Args G I H σ e (v :: vs) (some (i, fs) :: os) (s :: ss) F
section
variable {G : Gr} {EX : WX} {n m nc : Bool} {I I1 I' H H1 H' : Hp} {F F1 F' Fs Fx Gs : List Addr} {σ : L2.St} {e e1 e' : Env} {v u : V} {x y : EV} {vs : List V} {xs : List EV} {ps : List PV} {s : Slot} {ss bs : List Slot} {a b : PV} {Q : VK} {os : List (Option (Nat × List Nat))}
theorem SReps.length : ∀ {vs : List V} {ss : List Slot} {F : List Addr}, SReps G I H vs ss F → vs.length = ss.length
  | _, _, _, .nil => rfl
  | _, _, _, .cons _ r => congrArg Nat.succ r.length
theorem getP_set {i j : Nat} {fs : List Nat} (h : j ≠ i) (X : Slot) : getP (e.set i X) j fs = getP e j fs := by
  unfold getP
  rw [List.getElem?_set_ne (Ne.symm h)]
theorem Args.hide {i : Nat} (X : Slot) (h : Args G I H σ e vs os ss Fx) : i ∉ roots os → Args G I H σ (e.set i X) vs os ss Fx := by
  induction h with
  | nil => exact fun _ => .nil
  | free h r ih => exact fun n => .free h (ih n)
  | own p g o d r ih =>
    intro n
    rw [roots, List.mem_cons, not_or] at n
    exact .own p (by rw [getP_set (Ne.symm n.1)]; exact g) o d (ih n.2)
theorem setP_at {i : Nat} {fs : List Nat} {s0 : Slot} (h : e[i]? = some s0) (b : Slot) : setP e i fs b = e.set i (setS s0 fs b) := by
  unfold setP
  rw [h]
theorem backQ_set {i : Nat} (X : Slot) : ∀ (os : List (Option (Nat × List Nat))) (bs : List Slot) (e : Env), i ∉ roots os → backQ (e.set i X) os bs = (backQ e os bs).set i X
  | [], [], _, _ => rfl
  | [], _ :: _, _, _ => rfl
  | none :: r, [], _, _ => rfl
  | some _ :: r, [], _, _ => rfl
  | none :: r, _ :: bs, e, n => backQ_set X r bs e n
  | some (j, fs) :: r, b :: bs, e, n => by
    rw [roots, List.mem_cons, not_or] at n
    rw [backQ, backQ, ← backQ_set X r bs _ n.2]
    congr 1
    cases z : e[j]? with
    | none =>
      unfold setP
      rw [List.getElem?_set_ne n.1, z]
    | some s0 =>
      rw [setP_at z, setP_at (by rw [List.getElem?_set_ne n.1]; exact z), List.set_comm _ _ (Ne.symm n.1)]
theorem EnvR.fill : ∀ {σ : L2.St} {e : Env} {F : List Addr} {i : Nat}, EnvR G I H σ e F → e[i]? = some .dead → σ[i]? = some (some v) → SRep G I H v s Fs → ∃ F1 F2, F = F1 ++ F2 ∧ EnvR G I H σ (e.set i s) (F1 ++ Fs ++ F2)
  | _, _, _, _, .nil, h, _, _ => by simp at h
  | _, _, _, 0, @EnvR.no _ _ _ o σ e F r, _, h, k => by
    simp at h
    subst h
    exact ⟨[], F, rfl, by simpa using EnvR.hv k r⟩
  | _, _, _, i + 1, @EnvR.no _ _ _ o σ e F r, h, h2, k => by
    obtain ⟨F1, F2, h3, h4⟩ := r.fill (i := i) (by simpa using h) (by simpa using h2) k
    exact ⟨F1, F2, h3, by simpa using EnvR.no h4⟩
  | _, _, _, 0, @EnvR.hv _ _ _ v0 s0 σ e F1 F2 q r, h, h2, k => by
    simp at h h2
    subst h h2
    cases q
    exact ⟨[], F2, rfl, by simpa using EnvR.hv k r⟩
  | _, _, _, i + 1, @EnvR.hv _ _ _ v0 s0 σ e G1 G2 q r, h, h2, k => by
    obtain ⟨F1, F2, h3, h4⟩ := r.fill (i := i) (by simpa using h) (by simpa using h2) k
    exact ⟨G1 ++ F1, F2, by rw [h3, List.append_assoc], by simpa [List.append_assoc] using EnvR.hv q h4⟩
theorem perm_c {A B : List Addr} : A.Perm B ↔ ∀ a, A.count a = B.count a := List.perm_iff_count
theorem Args.take (ex : Ex I H) : ∀ {vs : List V} {os : List (Option (Nat × List Nat))} {ss : List Slot} {Fx : List Addr} {e : Env} {F : List Addr}, Args G I H σ e vs os ss Fx → (roots os).Nodup → EnvR G I H σ e F →
    ∃ Fr Fp Fa, F.Perm (Fr ++ Fp) ∧ Fa.Perm (Fx ++ Fp) ∧ SReps G I H vs ss Fa ∧
      ∀ (I' H' : Hp) (bs : List Slot) (Fb : List Addr), Ex I I' → (∀ a ∈ Fr, H' a = H a) → SReps G I' H' vs bs Fb → ∃ F2 D, EnvR G I' H' σ (backQ e os bs) F2 ∧ (F2 ++ D).Perm (Fr ++ Fb)
  | _, _, _, _, e, F, .nil, _, en => ⟨F, [], [], by simp, by simp, .nil, fun I' H' bs Fb q k r => by
      cases r
      exact ⟨F, [], en.step q k, by simp⟩⟩
  | _, _, _, _, e, F, .free (F1 := G1) h r, nd, en => by
    obtain ⟨Fr, Fp, Fa, h1, h2, h3, h4⟩ := Args.take ex r nd en
    refine ⟨Fr, Fp, G1 ++ Fa, h1, ?_, .cons h h3, fun I' H' bs Fb q k z => ?_⟩
    · rw [List.append_assoc]
      exact List.Perm.append_left _ h2
    · cases z with
      | @cons _ b _ bs' B1 B2 hb zr =>
        obtain ⟨F2, D, k1, k2⟩ := h4 I' H' bs' B2 q k zr
        refine ⟨F2, D ++ B1, k1, ?_⟩
        rw [perm_c] at k2 ⊢
        intro a
        have := k2 a
        simp only [List.count_append] at this ⊢
        omega
  | _, _, _, _, e, F, @Args.own _ _ _ _ _ v s i fs vs os ss Fx p g o d r, nd, en => by
    rw [roots, List.nodup_cons] at nd
    obtain ⟨s0, hs0, gs⟩ := getP_some g
    have ns : s0 ≠ .dead := fun q => by subst q; exact d (dead_way gs)
    obtain ⟨v0, F1, Fi, F2, hv, hs, hF, ex0⟩ := en.at hs0 ns
    have en1 : EnvR G I H σ (e.set i .dead) (F1 ++ F2) := by
      have z := ex0 I H v0 .dead [] (Ex.refl _) (fun _ _ => rfl) .dead
      rw [set_same hv, List.append_nil] at z
      exact z
    obtain ⟨u, A, Ft, B, pth, hu, hFi, put⟩ := hs.put gs (owned_way gs o)
    obtain ⟨w, hw, pw⟩ := p
    rw [hv] at hw
    cases hw
    have e2 := pw.det pth
    subst e2
    obtain ⟨Fr, Fp, Fa, h1, h2, h3, h4⟩ := Args.take ex (r.hide .dead nd.1) nd.2 en1
    refine ⟨A ++ B ++ Fr, Ft ++ Fp, Ft ++ Fa, ?_, ?_, .cons hu h3, fun I' H' bs Fb q k z => ?_⟩
    · rw [hF, hFi, perm_c]
      rw [perm_c] at h1
      intro a
      have := h1 a
      simp only [List.count_append] at this ⊢
      omega
    · rw [perm_c] at h2 ⊢
      intro a
      have := h2 a
      simp only [List.count_append] at this ⊢
      omega
    · cases z with
      | @cons _ b _ bs' B1 B2 hb zr =>
        obtain ⟨F3, D, k1, k2⟩ := h4 I' H' bs' B2 q (fun a ha => k a (List.mem_append_right _ ha)) zr
        have sv := put I' H' b B1 q (fun a ha => k a (List.mem_append_left _ ha)) hb
        rw [backQ_set _ _ _ _ nd.1] at k1
        have hlen : i < (backQ e os bs').length := by
          have hl1 : i < e.length := (List.getElem?_eq_some_iff.mp hs0).1
          have hl2 := k1.len
          have hl3 := en.len
          rw [List.length_set] at hl2
          omega
        obtain ⟨C1, C2, k3, k4⟩ := k1.fill (i := i) (by simp [hlen]) hv sv
        rw [List.set_set] at k4
        refine ⟨C1 ++ (A ++ B1 ++ B) ++ C2, D, ?_, ?_⟩
        · rw [backQ, setP_at hs0, backQ_set _ _ _ _ nd.1]
          exact k4
        · rw [k3] at k2
          rw [perm_c] at k2 ⊢
          intro a
          have := k2 a
          simp only [List.count_append] at this ⊢
          omega
theorem Args.of (w : W G I H σ e F) : ∀ {vs : List V} {xs : List EV} {Fs : List Addr} {ss : List Slot}, EvRs G I H σ vs xs Fs → argsOf e xs = some ss → Args G I H σ e vs (xs.map (ownP e)) ss Fs
  | _, _, _, _, .nil, q => by cases q; exact .nil
  | _, _, _, ss, @EvRs.cons _ _ _ _ v x vs xs F1 F2 h r, q => by
    rw [argsOf] at q
    cases z1 : argOf e x with
    | none => rw [z1] at q; cases q
    | some p =>
      cases z2 : argsOf e xs with
      | none => rw [z1, z2] at q; cases q
      | some ps =>
        rw [z1, z2] at q
        cases q
        have ih := Args.of w r z2
        rw [List.map_cons]
        cases h with
        | @sl _ s h =>
          rw [argOf] at z1
          split at z1
          · cases z1
            exact .free h ih
          · cases z1
        | @pl i fs h =>
          rw [argOf] at z1
          cases z3 : getP e i fs with
          | none => rw [z3] at z1; cases z1
          | some s =>
            rw [z3] at z1
            dsimp only at z1
            split at z1
            · rename_i l
              obtain rfl : s = p := Option.some.inj z1
              rw [ownP, z3]
              dsimp only
              by_cases o : owned s = true
              · rw [if_pos o]
                exact .own h z3 o (live_ne l) ih
              · rw [if_neg o]
                obtain ⟨u, A, Ft, B, hp, hs, _⟩ := w.get z3 (live_ne l)
                rw [h.det hp]
                have e0 : Ft = [] := by
                  cases s with
                  | val p => exact (val_nil hs).1
                  | _ => exact absurd rfl o
                subst e0
                have z : Args G I H σ e (u :: vs) (none :: xs.map (ownP e)) (s :: ps) ([] ++ F2) := .free hs ih
                exact z
            · cases z1
def PostC (G : Gr) (r : CR) (I H : Hp) (F : List Addr) (vs : List V) (Q : VK) (E : XK) : Prop :=
  match r with
  | .ok s bs => ∀ v I' H' Fs Fb, Stp false I H F I' H' (Fs ++ Fb) → Ex I' H' → SRep G I' H' v s Fs → SReps G I' H' vs bs Fb → (Fs ++ Fb).Nodup → (∀ a ∈ Fs ++ Fb, I' a = none) → Q v H'
  | .exc x bs => ∀ cls d I' H' Fb, Stp false I H F I' H' Fb → Ex I' H' → SReps G I' H' vs bs Fb → Fb.Nodup → (∀ a ∈ Fb, I' a = none) → XRep G I' H' cls d x → E cls d H'
  | .bad => False
def spEv (G : Gr) (np : Nat) (f : List Slot → CR) : Sp := fun vs H Q E => vs.length = np ∧ ∃ I F ss, Ex I H ∧ SReps G I H vs ss F ∧ F.Nodup ∧ (∀ a ∈ F, I a = none) ∧ PostC G (f ss) I H F vs Q E
theorem Hld.lent (h : Hld G n I H F σ vs xs e1 I1 H1 Fs F1) {Fr Fp Fa Fo Fb D : List Addr} (p1 : F1.Perm (Fr ++ Fp)) (p2 : Fa.Perm (Fs ++ Fp)) (st : Stp false I1 H1 Fa I' H' (Fo ++ Fb)) (ei : Ex I' H') (nd : (Fo ++ Fb).Nodup) (fr : ∀ a ∈ Fo ++ Fb, I' a = none)
    {F2 : List Addr} (p3 : (F2 ++ D).Perm (Fr ++ Fb)) : Stp false I H F I' H' (Fo ++ F2) ∧ (Fo ++ F2).Nodup ∧ ∀ a ∈ Fo ++ F2, I' a = none := by
  have sub : ∀ a ∈ Fa, a ∈ Fs ++ F1 := fun a ha => by
    rcases List.mem_append.mp (p2.mem_iff.mp ha) with q | q
    · exact List.mem_append_left _ q
    · exact List.mem_append_right _ (p1.mem_iff.mpr (List.mem_append_right _ q))
  have rF : ∀ a ∈ Fr, a ∈ F1 := fun a ha => p1.mem_iff.mpr (List.mem_append_left _ ha)
  have ndF := p1.nodup_iff.mp h.w.nd
  have rNot : ∀ a ∈ Fr, a ∉ Fa := fun a ha hf => by
    rcases List.mem_append.mp (p2.mem_iff.mp hf) with q | q
    · exact (List.nodup_append.mp h.nd).2.2 a q a (rF a ha) rfl
    · exact (List.nodup_append.mp ndF).2.2 a ha a q rfl
  have rIn : ∀ a ∈ Fr, ∃ o, H1 a = some o := fun a ha => h.w.env.there a (rF a ha)
  have rOut : ∀ a ∈ Fr, a ∉ Fo ++ Fb := fun a ha hf => by
    rcases st.own a hf with q | q
    · exact rNot a ha q
    · obtain ⟨o, ho⟩ := rIn a ha
      rw [ho] at q; cases q
  have m2 : ∀ a ∈ F2, a ∈ Fr ∨ a ∈ Fb := fun a ha => List.mem_append.mp (p3.mem_iff.mp (List.mem_append_left _ ha))
  have nd3 : (F2 ++ D).Nodup := p3.nodup_iff.mpr (List.nodup_append.mpr ⟨(List.nodup_append.mp ndF).1, (List.nodup_append.mp nd).2.1, fun a ha b hb q => rOut a ha (List.mem_append_right _ (q ▸ hb))⟩)
  have st2 : Stp false I1 H1 (Fs ++ F1) I' H' (Fo ++ F2) := ⟨st.ex, fun a o ho hf => st.old a o ho fun m => hf (sub a m), st.dom, fun a ha => by
    rcases List.mem_append.mp ha with q | q
    · exact (st.own a (List.mem_append_left _ q)).imp (sub a) id
    · rcases m2 a q with q | q
      · exact .inl (List.mem_append_right _ (rF a q))
      · exact (st.own a (List.mem_append_right _ q)).imp (sub a) id, fun q => nomatch q⟩
  refine ⟨(h.stp.trans st2).less fun q => (nomatch q), List.nodup_append.mpr ⟨(List.nodup_append.mp nd).1, (List.nodup_append.mp nd3).1, fun a ha b hb q => ?_⟩, fun a ha => ?_⟩
  · subst q
    rcases m2 a hb with z | z
    · exact rOut a z (List.mem_append_left _ ha)
    · exact (List.nodup_append.mp nd).2.2 a ha a z rfl
  · rcases List.mem_append.mp ha with q | q
    · exact fr a (List.mem_append_left _ q)
    · rcases m2 a q with q | q
      · obtain ⟨o, ho⟩ := rIn a q
        rw [(st.old a o ho (rNot a q)).2]
        exact h.w.fr a (rF a q)
      · exact fr a (List.mem_append_right _ q)
theorem bad_of {α : Type} {r : R α} : r = .bad → PostT G EX n r I H F σ (fun _ _ => True) → False := fun h q => by subst h; exact q
theorem Hld.call (h : Hld G n I H F σ vs xs e1 I1 H1 Fs F1) {f : Nat} {sem : Nat → List Slot → CR} {np : Nat} (hn : ∀ ss, argsOf e1 xs = some ss → sem f ss ≠ .bad → ss.length = np)
    (q : PostE G EX false (callR sem f xs e1) I H F σ Q) : spEv G np (sem f) vs H1 Q (WE EX σ) := by
  unfold callR at q
  cases z : argsOf e1 xs with
  | none => rw [z] at q; exact q.elim
  | some ss =>
    rw [z] at q
    dsimp only at q
    by_cases c : rootsOk e1 xs = true
    · rw [if_pos c] at q
      have nd : (roots (xs.map (ownP e1))).Nodup := of_decide_eq_true c
      obtain ⟨Fr, Fp, Fa, h1, h2, h3, h4⟩ := Args.take h.w.ex (Args.of h.w h.ev z) nd h.w.env
      have ndA : (Fs ++ Fp).Nodup := List.nodup_append.mpr ⟨(List.nodup_append.mp h.nd).1, (List.nodup_append.mp (h1.nodup_iff.mp h.w.nd)).2.1, fun a ha b hb q => (List.nodup_append.mp h.nd).2.2 a ha b (h1.mem_iff.mpr (List.mem_append_right _ hb)) q⟩
      have frA : ∀ a ∈ Fa, I1 a = none := fun a ha => by
        rcases List.mem_append.mp (h2.mem_iff.mp ha) with q | q
        · exact h.fr a q
        · exact h.w.fr a (h1.mem_iff.mpr (List.mem_append_right _ q))
      have hb : sem f ss ≠ .bad := fun hb => by rw [hb] at q; exact q
      refine ⟨by rw [h3.length]; exact hn ss z hb, I1, Fa, ss, h.w.ex, h3, h2.nodup_iff.mpr ndA, frA, ?_⟩
      have keepR : ∀ {I' H' : Hp} {Fo : List Addr}, Stp false I1 H1 Fa I' H' Fo → ∀ a ∈ Fr, H' a = H1 a := fun st a ha => by
        have am : a ∈ F1 := h1.mem_iff.mpr (List.mem_append_left _ ha)
        obtain ⟨o, ho⟩ := h.w.env.there a am
        have na : a ∉ Fa := fun hf => by
          rcases List.mem_append.mp (h2.mem_iff.mp hf) with q | q
          · exact (List.nodup_append.mp h.nd).2.2 a q a am rfl
          · exact (List.nodup_append.mp (h1.nodup_iff.mp h.w.nd)).2.2 a ha a q rfl
        exact (st.old a o ho na).1.trans ho.symm
      cases zs : sem f ss with
      | bad => exact absurd zs hb
      | ok s bs =>
        rw [zs] at q
        dsimp only at q
        by_cases l : live s = true
        · rw [if_pos l] at q
          intro v I' H' Fo Fb st ei r rb nd2 fr2
          obtain ⟨F2, D, k1, k2⟩ := h4 I' H' bs Fb st.ex (keepR st) rb
          obtain ⟨j1, j2, j3⟩ := h.lent h1 h2 st ei nd2 fr2 k2
          exact q v I' H' F2 Fo j1 ⟨ei, k1, (List.nodup_append.mp j2).2.1, fun a ha => j3 a (List.mem_append_right _ ha)⟩ (.sl r) j2 fun a ha => j3 a (List.mem_append_left _ ha)
        · rw [if_neg l] at q; exact q.elim
      | exc x bs =>
        rw [zs] at q
        intro cls d I' H' Fb st ei rb nd2 fr2 xr
        obtain ⟨F2, D, k1, k2⟩ := h4 I' H' bs Fb st.ex (keepR st) rb
        obtain ⟨j1, j2, j3⟩ := h.lent (Fo := []) h1 h2 st ei nd2 fr2 k2
        exact q cls d I' H' F2 j1 ⟨ei, k1, j2, j3⟩ xr
    · rw [if_neg c] at q; exact q.elim
end
end RF
set_option maxHeartbeats 1000000
namespace RF
open PySem PySem.Spec PyProof.Rows L2 Evl
def plainE : Expr → Bool
  | .Starred _ _ => false
  | _ => true
def plainEs (es : List Expr) : Bool := es.all plainE
theorem star_cons {e : Expr} {es : List Expr} {env : PySem.Env} (h : plainE e = true) : starEach (e :: es) env = (false, eval e env) :: starEach es env := by
  cases e <;> first | rfl | cases h
theorem star_plain {env : PySem.Env} : ∀ {es : List Expr}, plainEs es = true → ∀ pos, (backTo pos (starEach es env)).any (·.1) = false
  | [], _, _ => rfl
  | e :: es, h, pos => by
    unfold plainEs at h
    rw [List.all_cons, Bool.and_eq_true] at h
    rw [star_cons h.1]
    show (false || (backTo pos (starEach es env)).any (·.1)) = false
    rw [star_plain (es := es) h.2 pos]
    rfl
theorem star_len {env : PySem.Env} : ∀ {es : List Expr}, (starEach es env).length = es.length
  | [] => rfl
  | e :: es => by
    cases e <;> exact congrArg Nat.succ (star_len (es := es))
theorem star_all {env : PySem.Env} : ∀ {es : List Expr}, plainEs es = true → ∀ pos, (backTo pos (starEach es env)).all (!·.1) = true := fun {es} h pos => by
  have := star_plain (env := env) h pos
  rw [List.any_eq_false] at this
  rw [List.all_eq_true]
  intro x hx
  simpa using this x hx
def notCall : Expr → Bool
  | .Call _ _ _ _ => false
  | _ => true
theorem base_of {o : Expr} {m : Str} {env : PySem.Env} {w : Sem Value} (h : notCall o = true) : attributeBase o m env w = w := by
  cases o <;> first | rfl | cases h
theorem eval_mth {o : Expr} {m : Str} {apos pos : Pos} {es : List Expr} {env : PySem.Env} (ho : notCall o = true) (hl : (apos.endLine == pos.line) = true) (hp : plainEs es = true) (hn : es.length < 30) :
    eval (.Call (.Attribute o m apos) es [] pos) env = (do
      let ov ← eval o env
      standAt apos.atName
      let (f, first) ← holding [ov] (getMethod ov m (do return (← importBound o env).getD true))
      callWith pos f first (backTo pos (starEach es env)) (backToKw pos (keywordEach [] env))) := by
  have hform : methodCallForm (es.length + ([] : List Keyword).length) (backTo pos (starEach es env)) (backToKw pos (keywordEach [] env)) = true := by
    unfold methodCallForm
    rw [star_all hp pos]
    simpa [keywordEach, backToKw] using hn
  have hpos : methodCallPos true o env apos pos = pure pos := by unfold methodCallPos; simp [hl]
  show (do
    let ov ← attributeBase o m env (eval o env)
    standAt apos.atName
    methodCall o m apos pos env ov (es.length + ([] : List Keyword).length) (backTo pos (starEach es env)) (backToKw pos (keywordEach [] env))) = _
  rw [base_of ho]
  unfold methodCall
  rw [hform, hpos]
  rfl
section
variable {X : Cx} {G : Gr} {EX : WX} {n m : Bool} {H : Hp} {σ : L2.St} {Q : VK} {k : Nat} {fa : Addr} {fd : FuncData} {ps : List Str} {np : Nat} {sem : Nat → List Slot → CR} {i : Nat} {x : Str} {p pos apos : Pos} {es : List Expr} {fs : FA} {E : L2.St → XK} {sp : Sp}
theorem t_call (hn : ∀ ss, sem i ss ≠ .bad → ss.length = np) (z : tE G EX false (fun e => (fs e).bind (callR sem i)) σ H Q) : tCallS (spEv G np (sem i)) (WE EX) (tA G EX n fs) σ H Q :=
  t_args (t' := fun vs H1 Q => spEv G np (sem i) vs H1 Q (WE EX σ)) (fun h q => h.call (fun ss _ hb => hn ss hb) q) z
theorem pe_callS0 (F : FnOk X.prog X.w X.K X.mg X.base (CX X.prog X.w) k fa fd ps sp) (hr : Room k X.A) (hg : L2.Gl X x) (hm : X.mg x = some (.ref fa)) (hk : PySem.W.keepIn X.K (.ref fa) = true) (hb : Binds X.K fd ps []) (hx : ∀ σ, PassesAt (CX X.prog X.w) X σ (E σ))
    (hdb : (x == ("__debug__" : Str)) = false) : PE X (.Call (.Name x p) [] [] pos) (tCallS sp E tNil) := by
  refine ⟨fun pins s σ H Q I h => ?_⟩
  refine wpAny_Call_Name_kw (ld_glob I hg hm ?_ hdb)
  exact PySem.W.callWith_K0 I.kIn hk (run_fnS (us := []) F hr hb (hx σ) I .nil h)
theorem s_call (tk : Takes X EX) (F : FnOk X.prog X.w X.K X.mg X.base (CX X.prog X.w) k fa fd ps (spEv G np (sem i))) (hr : Room k X.A) (hg : L2.Gl X x) (hm : X.mg x = some (.ref fa)) (hk : PySem.W.keepIn X.K (.ref fa) = true) (hb : Binds X.K fd ps [])
    (hdb : (x == ("__debug__" : Str)) = false) (hn : ∀ ss, sem i ss ≠ .bad → ss.length = np) (hp : plainEs es = true) (ha : PA X es (tA G EX n fs)) (h0 : es = [] → fs = fun e => .ok [] e) :
    PE X (.Call (.Name x p) es [] pos) (tE G EX false (fun e => (fs e).bind (callR sem i))) := by
  cases es with
  | nil =>
    cases h0 rfl
    refine PE.imp (pe_callS0 F hr hg hm hk hb (passAt tk) hdb) fun σ H Q z => ?_
    have z2 := t_call (n := true) hn z
    exact t_nil z2
  | cons e es =>
    have hp' := hp
    unfold plainEs at hp'
    rw [List.all_cons, Bool.and_eq_true] at hp'
    exact PE.imp (pe_callS F hr hg hm hk hb (passAt tk) ha hdb (star_cons hp'.1) (star_plain hp'.2 pos)) fun σ H Q z => t_call hn z
theorem run_makeS {C : Addr} {pins : List (Addr × Obj)} {s : Shared} {us : List Value} {vs : List V} (M : Mk X.K C fa) (F : FnOk X.prog X.w X.K X.mg X.base (CX X.prog X.w) k fa fd ps sp) (hr : Room (k + 1) X.A) (hb : Binds X.K fd ps [])
    (hx : PassesAt (CX X.prog X.w) X σ (E σ)) (I : Inv X pins σ H s) (r : Vals vs us)
    (h : ∀ x dx, H x = none → H dx = none → dx ≠ x → sp (.ref x :: vs) (upd (upd H dx (.own x)) x (.ins C dx [])) (fun v H2 => v = .non ∧ Q (.ref x) H2) (E σ)) :
    wpAny (model X.prog X.w) X.A (call (.ref C) us) (EP X pins σ Q) X.xe s := by
  have hq := h (s.heap.objs.size + 1) s.heap.objs.size (I.hok.fresh (Nat.le_succ _)) (I.hok.fresh (Nat.le_refl _)) (Nat.ne_of_lt (Nat.lt_succ_self _))
  have I2 := Inv.made (C := C) I
  have rs : Vals (V.ref (s.heap.objs.size + 1) :: vs) (Value.ref (s.heap.objs.size + 1) :: us) := .cons rfl r
  have hl : (Value.ref (s.heap.objs.size + 1) :: us).length = ps.length := by rw [← rs.length]; exact F.len _ _ _ _ hq
  have b := hb _ (Value.ref (s.heap.objs.size + 1) :: us) I2.kIn (by rw [List.append_nil]; exact hl)
  rw [List.append_nil] at b
  refine wpAny_call (make_map (f := fa) I.kIn M.makes M.init (beq_iff_eq.mp M.fn) (codeAny_mono (F.run _ X.stack _ _ ⟨_, []⟩ _ _ _ (E σ) (hr.make C us []) (I2.env0.make C us []) b rs hq) fun r s' hq' => ?_))
  cases r with
  | error e => exact hx pins _ _ e s' I2 hq'
  | ok fl =>
    cases fl with
    | ret u =>
      obtain ⟨v, H', I3, rv, ev, q3⟩ := I2.after hq'
      subst ev
      exact ⟨rv, V.ref (s.heap.objs.size + 1), H', I3, rfl, q3⟩
    | next => exact False.elim hq'
    | brk => exact False.elim hq'
    | cont => exact False.elim hq'
def tMakeS (C : Addr) (sp : Sp) (E : L2.St → XK) (t : TA) : TE := fun σ H Q => t σ H fun vs H1 => ∀ x dx, H1 x = none → H1 dx = none → dx ≠ x →
  sp (.ref x :: vs) (upd (upd H1 dx (.own x)) x (.ins C dx [])) (fun v H2 => v = .non ∧ Q (.ref x) H2) (E σ)
theorem pe_makeS {C : Addr} {t : TA} (M : Mk X.K C fa) (F : FnOk X.prog X.w X.K X.mg X.base (CX X.prog X.w) k fa fd ps sp) (hr : Room (k + 1) X.A) (hg : L2.Gl X x) (hm : X.mg x = some (.ref C)) (hb : Binds X.K fd ps []) (hx : ∀ σ, PassesAt (CX X.prog X.w) X σ (E σ))
    {e : Expr} (ha : PA X (e :: es) t) (hdb : (x == ("__debug__" : Str)) = false) (he : starEach (e :: es) X.env = (false, eval e X.env) :: starEach es X.env) (hpl : (backTo pos (starEach es X.env)).any (·.1) = false) :
    PE X (.Call (.Name x p) (e :: es) [] pos) (tMakeS C sp E t) := by
  refine ⟨fun pins s σ H Q I h => ?_⟩
  refine wpAny_Call_Name_kw (ld_glob I hg hm ?_ hdb)
  refine PySem.W.callWith_K (h₀ := X.base) I.ok.mod.kin M.kp (thn (ha.run pos pins s σ H _ I h) fun us s1 ⟨vs, H1, I1, r, q⟩ => ⟨I1.kIn, ?_⟩) he hpl
  exact run_makeS M F hr hb (hx σ) I1 r q
theorem pe_makeS0 {C : Addr} (M : Mk X.K C fa) (F : FnOk X.prog X.w X.K X.mg X.base (CX X.prog X.w) k fa fd ps sp) (hr : Room (k + 1) X.A) (hg : L2.Gl X x) (hm : X.mg x = some (.ref C)) (hb : Binds X.K fd ps []) (hx : ∀ σ, PassesAt (CX X.prog X.w) X σ (E σ))
    (hdb : (x == ("__debug__" : Str)) = false) : PE X (.Call (.Name x p) [] [] pos) (tMakeS C sp E tNil) := by
  refine ⟨fun pins s σ H Q I h => ?_⟩
  refine wpAny_Call_Name_kw (ld_glob I hg hm ?_ hdb)
  exact PySem.W.callWith_K0 I.kIn M.kp (run_makeS (us := []) M F hr hb (hx σ) I .nil h)
end
section
variable {G : Gr} {EX : WX} {n m nc : Bool} {I I1 I' H H1 H' : Hp} {F F1 F' Fs Fx Gs : List Addr} {σ : L2.St} {e e1 e' : RF.Env} {v u : V} {x y : EV} {vs : List V} {xs : List EV} {s : Slot} {ss bs : List Slot} {Q : VK}
theorem SReps.keep (ex : Ex I I') : ∀ {vs : List V} {ss : List Slot} {F : List Addr}, SReps G I H vs ss F → (∀ a ∈ F, H' a = H a) → SReps G I' H' vs ss F
  | _, _, _, .nil, _ => .nil
  | _, _, _, .cons h r, k => .cons (h.step ex fun a ha => k a (List.mem_append_left _ ha)) (r.keep ex fun a ha => k a (List.mem_append_right _ ha))
theorem Hld.make (h : Hld G n I H F σ vs xs e1 I1 H1 Fs F1) {g : RF.Gl} {c f : Nat} {np : Nat} (hc : g.ini c = some f) (hn : ∀ ss, g.sem f ss ≠ .bad → ss.length = np)
    (q : PostE G EX false (makR g c xs e1) I H F σ Q) {p dx : Addr} (h1 : H1 p = none) (h2 : H1 dx = none) (h3 : dx ≠ p) :
    spEv G np (g.sem f) (.ref p :: vs) (upd (upd H1 dx (.own p)) p (.ins (G.cl c) dx [])) (fun v H2 => v = .non ∧ Q (.ref p) H2) (WE EX σ) := by
  unfold makR at q
  rw [hc] at q
  cases z : argsOf e1 xs with
  | none => rw [z] at q; exact q.elim
  | some ss =>
    rw [z] at q
    dsimp only at q
    by_cases c0 : rootsOk e1 xs = true
    · rw [if_pos c0] at q
      have nd : (roots (xs.map (ownP e1))).Nodup := of_decide_eq_true c0
      obtain ⟨Fr, Fp, Fa, p1, p2, p3, p4⟩ := Args.take h.w.ex (Args.of h.w h.ev z) nd h.w.env
      have ndA : (Fs ++ Fp).Nodup := List.nodup_append.mpr ⟨(List.nodup_append.mp h.nd).1, (List.nodup_append.mp (p1.nodup_iff.mp h.w.nd)).2.1, fun a ha b hb q => (List.nodup_append.mp h.nd).2.2 a ha b (p1.mem_iff.mpr (List.mem_append_right _ hb)) q⟩
      have subA : ∀ a ∈ Fa, a ∈ Fs ∨ a ∈ F1 := fun a ha => (List.mem_append.mp (p2.mem_iff.mp ha)).imp id fun q => p1.mem_iff.mpr (List.mem_append_right _ q)
      have inA : ∀ a ∈ Fa, ∃ o, H1 a = some o := fun a ha => (subA a ha).elim (h.ev.there a) (h.w.env.there a)
      have frA : ∀ a ∈ Fa, I1 a = none := fun a ha => (subA a ha).elim (h.fr a) (h.w.fr a)
      have npA : p ∉ Fa := fun hp => by
        obtain ⟨o, ho⟩ := inA p hp
        rw [h1] at ho; cases ho
      have Ip : I1 p = none := in_none h.w.ex h1
      -- the new heap
      have exN : Ex H1 (upd (upd H1 dx (.own p)) p (.ins (G.cl c) dx [])) := fun a o ha => by
        rw [upd_ne (ne_of_none ha h1), upd_ne (ne_of_none ha h2)]
        exact ha
      have new : New I1 H1 I1 (upd (upd H1 dx (.own p)) p (.ins (G.cl c) dx [])) [p] := ⟨Ex.refl _, exN, fun _ _ _ => rfl, fun a ha => by rw [List.mem_singleton.mp ha]; exact ⟨h1, Ip⟩, by simp, h.w.ex.trans exN⟩
      have r3 : SReps G I1 (upd (upd H1 dx (.own p)) p (.ins (G.cl c) dx [])) vs ss Fa := by
        exact p3.keep (Ex.refl _) fun a ha => by
          obtain ⟨o, ho⟩ := inA a ha
          exact (exN a o ho).trans ho.symm
      have hb : g.sem f (.oins c [] :: ss) ≠ .bad := fun hb => by rw [hb] at q; exact q
      have lenS : (V.ref p :: vs).length = np := by
        have := hn _ hb
        rw [List.length_cons, ← p3.length] at this
        exact this
      have r0 : SRep G I1 (upd (upd H1 dx (.own p)) p (.ins (G.cl c) dx [])) (.ref p) (.oins c []) [p] := .oins upd_same rfl .nil
      have hG := h.grow new
      have stN : Stp n I H F I1 (upd (upd H1 dx (.own p)) p (.ins (G.cl c) dx [])) (Fs ++ F1) := hG.stp
      have pOut : p ∉ Fs ++ F1 := fun hp => by
        rcases List.mem_append.mp hp with q | q
        · obtain ⟨o, ho⟩ := h.ev.there p q; rw [h1] at ho; cases ho
        · obtain ⟨o, ho⟩ := h.w.env.there p q; rw [h1] at ho; cases ho
      have pNone : H p = none ∨ p ∈ F := by
        cases zz : H p with
        | none => exact .inl rfl
        | some o =>
          obtain ⟨o', h'⟩ := h.stp.dom p o zz
          rw [h1] at h'; cases h'
      -- held: the instance too
      have hH : Hld G n I H F σ (.ref p :: vs) (.sl (.oins c []) :: xs) e1 I1 (upd (upd H1 dx (.own p)) p (.ins (G.cl c) dx [])) ([p] ++ Fs) F1 :=
        ⟨⟨stN.ex, stN.old, stN.dom, fun a ha => by
          rcases List.mem_append.mp ha with q | q
          · rcases List.mem_append.mp q with q | q
            · rw [List.mem_singleton.mp q]; exact pNone.elim .inr .inl
            · exact stN.own a (List.mem_append_left _ q)
          · exact stN.own a (List.mem_append_right _ q), stN.keep⟩, hG.w, .cons (.sl r0) hG.ev, by
            rw [List.append_assoc]
            exact List.nodup_append.mpr ⟨by simp, h.nd, fun a ha b hb q => pOut (by rw [← List.mem_singleton.mp ha, q]; exact hb)⟩, fun a ha => by
            rcases List.mem_append.mp ha with q | q
            · rw [List.mem_singleton.mp q]; exact Ip
            · exact h.fr a q⟩
      have p2' : ([p] ++ Fa).Perm (([p] ++ Fs) ++ Fp) := by
        rw [List.append_assoc]
        exact List.Perm.append_left _ p2
      have keepR : ∀ {I' H' : Hp} {Fo : List Addr}, Stp false I1 (upd (upd H1 dx (.own p)) p (.ins (G.cl c) dx [])) ([p] ++ Fa) I' H' Fo → ∀ a ∈ Fr, H' a = H1 a := fun st a ha => by
        have am : a ∈ F1 := p1.mem_iff.mpr (List.mem_append_left _ ha)
        obtain ⟨o, ho⟩ := h.w.env.there a am
        have na : a ∉ [p] ++ Fa := fun hf => by
          rcases List.mem_append.mp hf with q | q
          · rw [List.mem_singleton.mp q, h1] at ho; cases ho
          · rcases List.mem_append.mp (p2.mem_iff.mp q) with q | q
            · exact (List.nodup_append.mp h.nd).2.2 a q a am rfl
            · exact (List.nodup_append.mp (p1.nodup_iff.mp h.w.nd)).2.2 a ha a q rfl
        exact (st.old a o (exN a o ho) na).1.trans ho.symm
      refine ⟨lenS, I1, [p] ++ Fa, .oins c [] :: ss, h.w.ex.trans exN, .cons r0 r3, List.nodup_append.mpr ⟨by simp, p2.nodup_iff.mpr ndA, fun a ha b hb q => npA (by rw [← List.mem_singleton.mp ha, q]; exact hb)⟩, fun a ha => by
        rcases List.mem_append.mp ha with q | q
        · rw [List.mem_singleton.mp q]; exact Ip
        · exact frA a q, ?_⟩
      cases zs : g.sem f (.oins c [] :: ss) with
      | bad => exact absurd zs hb
      | exc x bs =>
        rw [zs] at q
        cases bs with
        | nil => exact q.elim
        | cons b bs =>
          intro cls d I' H' Fb st ei rb nd2 fr2 xr
          cases rb with
          | @cons _ _ _ _ B1 B2 hb' rb =>
            obtain ⟨F2, D, k1, k2⟩ := p4 I' H' bs B2 st.ex (keepR st) rb
            have k3 : (F2 ++ (D ++ B1)).Perm (Fr ++ (B1 ++ B2)) := by
              rw [perm_c] at k2 ⊢
              intro a
              have := k2 a
              simp only [List.count_append] at this ⊢
              omega
            obtain ⟨j1, j2, j3⟩ := hH.lent (Fo := []) p1 p2' st ei nd2 fr2 k3
            exact q cls d I' H' F2 j1 ⟨ei, k1, j2, j3⟩ xr
      | ok s bs =>
        rw [zs] at q
        cases bs with
        | nil => cases s with
          | val w => cases w <;> exact q.elim
          | _ => exact q.elim
        | cons b bs =>
          by_cases hs : s = .val .non
          · subst hs
            dsimp only at q
            by_cases l : live b = true
            · rw [if_pos l] at q
              intro v I' H' Fo Fb st ei r rb nd2 fr2
              obtain ⟨e0, rv⟩ := val_nil r
              subst e0
              cases rv
              show V.non = V.non ∧ Q (V.ref p) H'
              refine ⟨rfl, ?_⟩
              cases rb with
              | @cons _ _ _ _ B1 B2 hb' rb =>
                obtain ⟨F2, D, k1, k2⟩ := p4 I' H' bs B2 st.ex (keepR st) rb
                rw [List.nil_append] at st nd2 fr2
                obtain ⟨j1, j2, j3⟩ := hH.lent (Fo := B1) (Fb := B2) p1 p2' st ei nd2 fr2 k2
                exact q (.ref p) I' H' F2 B1 j1 ⟨ei, k1, (List.nodup_append.mp j2).2.1, fun a ha => j3 a (List.mem_append_right _ ha)⟩ (.sl hb') j2 fun a ha => j3 a (List.mem_append_left _ ha)
            · rw [if_neg l] at q; exact q.elim
          · cases s with
            | val w => cases w <;> first | exact absurd rfl hs | exact q.elim
            | _ => exact q.elim
    · rw [if_neg c0] at q; exact q.elim
end
end RF
set_option maxHeartbeats 1000000
namespace RF
open PySem PySem.Spec PyProof.Rows L2 Evl
section
variable {G : Gr} {EX : WX} {n m l nc : Bool} {I I1 I' H H1 H' : Hp} {F F1 F' Fs Fx Gs : List Addr} {σ : L2.St} {e e1 e' : RF.Env} {v u : V} {x y : EV} {vs : List V} {xs : List EV} {s : Slot} {ss bs : List Slot} {Q : VK}
theorem RepF.no {nm : Str} : ∀ {fs : List (Str × V)} {gs : List (Nat × PV)}, RepF G I fs gs → (∀ p ∈ gs, G.an p.1 ≠ nm) → fs.lookup nm = none
  | _, _, .nil, _ => rfl
  | _, _, @RepF.cons _ _ k v x fs gs h r, q => by
    rw [List.lookup_cons, beq_eq_false_iff_ne.mpr (Ne.symm (q _ List.mem_cons_self))]
    exact r.no fun p hp => q p (List.mem_cons_of_mem _ hp)
theorem BRep.to_ins {c : Nat} {gs : List (Nat × PV)} (ex : Ex I H) (h : BRep G I H v (.ins c gs)) : ∃ a dx fs, v = .ref a ∧ H a = some (.ins (G.cl c) dx fs) ∧ (gs.all fun p => G.att c p.1) = true ∧ RepF G H fs gs := by
  have r := h.now ex
  cases r with
  | ins h t r => exact ⟨_, _, _, rfl, h, t, r⟩
theorem valOf_arg {s : Slot} (h : argOf e x = some s) : valOf e x = some (frz s) ∧ live s = true := by
  cases x with
  | sl t =>
    rw [argOf] at h
    split at h
    · rename_i l
      cases h
      exact ⟨by rw [valOf, if_pos l], l⟩
    · cases h
  | pl i fs =>
    rw [argOf] at h
    cases z : getP e i fs with
    | none => rw [z] at h; cases h
    | some t =>
      rw [z] at h
      dsimp only at h
      split at h
      · rename_i l
        cases h
        refine ⟨?_, l⟩
        rw [valOf, z]
        dsimp only
        rw [if_pos l]
      · cases h
structure FnF (X : Cx) (G : Gr) (sem : Nat → List Slot → CR) (k i : Nat) (fa : Addr) : Prop where
  ex : ∃ fd ps np, FnOk X.prog X.w X.K X.mg X.base (CX X.prog X.w) k fa fd ps (spEv G np (sem i)) ∧ Binds X.K fd ps [] ∧ ∀ ss, sem i ss ≠ .bad → ss.length = np
  kp : PySem.W.keepIn X.K (.ref fa) = true
def MetF (X : Cx) (G : Gr) (g : RF.Gl) (k m : Nat) (nm : Str) : Prop := ∀ c i, g.met c m = some i → ∃ fa, Cls X.K (G.cl c) ∧ Meth X.K (G.cl c) nm fa ∧ FnF X G g.sem k i fa ∧ ∀ f, G.att c f = true → G.an f ≠ nm
theorem s_mth {X : Cx} {o : Expr} {nm : Str} {mt k : Nat} {apos pos : Pos} {es : List Expr} {fo : FE} {fs : FA} {g : RF.Gl} (tk : Takes X EX) (hr : Room k X.A) (hM : MetF X G g k mt nm) (ho : notCall o = true) (hl : (apos.endLine == pos.line) = true) (hp : plainEs es = true) (hn : es.length < 30)
    (he : PE X o (tE G EX n fo)) (ha : PA X es (tA G EX l fs)) (hs : Roots fo ∨ l = true) (h0 : es = [] → fs = fun e => .ok [] e) :
    PE X (.Call (.Attribute o nm apos) es [] pos) (tE G EX false (fun e => (fo e).bind fun v e => (mthO g mt v e).bind fun f e => (fs e).bind fun vs => callR g.sem f (v :: vs))) := by
  refine ⟨fun pins s σ H Q J z => ?_⟩
  have z2 : tE G EX n fo σ H fun x H1 => ∃ a C dx gs fa i, x = .ref a ∧ H1 a = some (.ins C dx gs) ∧ Cls X.K C ∧ Meth X.K C nm fa ∧ FnF X G g.sem k i fa ∧ gs.lookup nm = none ∧
      tA G EX l fs σ H1 fun vs H2 => ∃ np, spEv G np (g.sem i) (x :: vs) H2 Q (WE EX σ) ∧ ∀ ss, g.sem i ss ≠ .bad → ss.length = np := by
    obtain ⟨I, e, F, w, q⟩ := z
    try dsimp only at q
    refine (Hld.start w).eval (m := n) (fun x hx => nomatch hx) ?_
    cases z : fo e with
    | exc x e' => rw [z] at q; exact q
    | bad => rw [z] at q; exact q
    | ok x e1 =>
      rw [z] at q
      refine fun v I1 H1 Gs F1 h1 => ?_
      have q' : PostE G EX false ((mthO g mt x e1).bind fun f e => (fs e).bind fun vs => callR g.sem f (x :: vs)) I H F σ Q := q
      cases z1 : argOf e1 x with
      | none =>
        unfold mthO at q'
        rw [z1] at q'
        exact q'.elim
      | some t =>
        have hc : ∃ c gs, frz t = .ins c gs ∧ clsOf (some t) = some c := by
          unfold mthO at q'
          rw [z1] at q'
          cases t with
          | oins c as => exact ⟨c, frzF as, by rw [frz], rfl⟩
          | val p =>
            cases p with
            | ins c as => exact ⟨c, as, by rw [frz], rfl⟩
            | _ => exact q'.elim
          | _ => exact q'.elim
        obtain ⟨c, gs, hf, hc⟩ := hc
        have hm : ∃ i, mthO g mt x e1 = .ok i e1 ∧ g.met c mt = some i := by
          unfold mthO at q' ⊢
          rw [z1, hc] at q' ⊢
          dsimp only at q' ⊢
          cases z2 : g.met c mt with
          | none => rw [z2] at q'; exact q'.elim
          | some i => exact ⟨i, rfl, rfl⟩
        obtain ⟨i, hm, hi⟩ := hm
        rw [hm] at q'
        have q2 : PostE G EX false ((fs e1).bind fun vs => callR g.sem i (x :: vs)) I H F σ Q := q'
        obtain ⟨va, lv⟩ := valOf_arg z1
        rw [hf] at va
        obtain ⟨_, _, _, hv, _⟩ := h1.ev.hd
        obtain ⟨a, dx, gs', rfl, hH, ht, hF⟩ := (hv.b h1.w va).to_ins h1.w.ex
        obtain ⟨fa, k1, k2, k3, k4⟩ := hM c i hi
        refine ⟨a, _, dx, gs', fa, i, rfl, hH, k1, k2, k3, hF.no fun p hp => k4 _ ?_, ?_⟩
        · exact List.all_eq_true.mp ht p hp
        · refine h1.evals (m := l) (fun x' hx => ?_) ?_
          · rw [List.mem_singleton.mp hx]
            cases x with
            | sl s => trivial
            | pl i fs => exact hs.imp (fun r => r _ _ _ _ z) id
          · cases z3 : fs e1 with
            | exc x e' => rw [z3] at q2; exact q2
            | bad => rw [z3] at q2; exact q2
            | ok xs e2 =>
              rw [z3] at q2
              intro vs I2 H2 Gs2 F2 h2 _
              obtain ⟨fd, ps, np, k5, k6, k7⟩ := k3.ex
              exact ⟨np, h2.call (fun ss _ hb => k7 ss hb) q2, k7⟩
  refine PySem.W.methodCall_KW (thn (he.run pins s σ H _ J z2) fun u s1 ⟨x, H1, I1, rx, a, C, dx, gs, fa, i, ex, ea, c, hm, F, lk, q⟩ => ?_) (eval_mth ho hl hp hn)
  subst ex
  obtain rfl : u = Value.ref a := rx
  refine getmeth_ok I1 ea c hm lk ?_
  obtain ⟨fd, ps, np, k5, k6, k7⟩ := F.ex
  have go : ∀ {us : List Value} {vs : List V} {H2 : Hp} {s2 : Shared}, Inv X pins σ H2 s2 → Vals vs us → (∃ np, spEv G np (g.sem i) (.ref a :: vs) H2 Q (WE EX σ) ∧ ∀ ss, g.sem i ss ≠ .bad → ss.length = np) → wpAny (model X.prog X.w) X.A (call (.ref fa) (.ref a :: us)) (EP X pins σ Q) X.xe s2 := fun {us vs H2 s2} I2 r ⟨np', q2, k8⟩ => by
    have e2 : np' = np := by
      obtain ⟨hl, I0, F0, ss, _, hS, _, _, hP⟩ := q2
      have hb : g.sem i ss ≠ .bad := fun hb => by rw [hb] at hP; exact hP
      rw [← k8 ss hb, k7 ss hb]
    subst e2
    exact run_fnS (us := .ref a :: us) (vs := .ref a :: vs) k5 hr k6 (passAt tk σ) I2 (.cons rfl r) q2
  cases es with
  | nil =>
    cases h0 rfl
    have q0 := t_nil (Q := fun vs H2 => ∃ np, spEv G np (g.sem i) (.ref a :: vs) H2 Q (WE EX σ) ∧ ∀ ss, g.sem i ss ≠ .bad → ss.length = np) (G := G) (EX := EX) (σ := σ) (H := H1) (by
      obtain ⟨I, e, F, w, q⟩ := q
      exact ⟨I, e, F, w, fun vs I' H' F' Fs st => q vs I' H' F' Fs (st.less fun _ => rfl)⟩)
    exact PySem.W.callWith_K0 (first := [.ref a]) I1.kIn hm.kp (go (us := []) I1 .nil q0)
  | cons e es =>
    have hp' := hp
    unfold plainEs at hp'
    rw [List.all_cons, Bool.and_eq_true] at hp'
    refine PySem.W.callWith_K (first := [.ref a]) (h₀ := X.base) I1.ok.mod.kin hm.kp (thn (ha.run pos pins s1 σ H1 _ I1 q) fun us s2 ⟨vs, H2, I2, r, q2⟩ => ⟨I2.kIn, ?_⟩) (star_cons hp'.1) (star_plain hp'.2 pos)
    exact go I2 r q2
theorem Hld.write (h : Hld G n I H F σ vs xs e1 I1 H1 Fs F1) {i : Nat} {fs : List Nat} (g : getP e1 i fs = some s) (o : owned s = true) (d : s ≠ .dead) :
    ∃ u A Ft B, PathV G H1 σ i fs u ∧ SRep G I1 H1 u s Ft ∧ F1 = A ++ Ft ++ B ∧ ∀ (a : Addr) (ho : HO) (s' : Slot) (Ft' : List Addr), a ∈ Ft → SRep G I1 (upd H1 a ho) u s' Ft' → Ft'.Nodup → (∀ b ∈ Ft', b ∈ Ft ∨ b ∈ Fs) →
      Stp false I H F I1 (upd H1 a ho) (A ++ Ft' ++ B) ∧ W G I1 (upd H1 a ho) σ (setP e1 i fs s') (A ++ Ft' ++ B) := by
  obtain ⟨u, A, Ft, B, p, hs, hF, put⟩ := h.w.put g d o
  refine ⟨u, A, Ft, B, p, hs, hF, fun a ho s' Ft' ha r nd' sub => ?_⟩
  have aF : a ∈ F1 := by rw [hF]; simp [ha]
  have nd := h.w.nd
  rw [hF] at nd
  have inF : ∀ b ∈ A ++ Ft' ++ B, b ∈ F1 ∨ b ∈ Fs := fun b hb => by
    rw [hF]
    simp only [List.mem_append] at hb ⊢
    rcases hb with (hb | hb) | hb
    · exact .inl (.inl (.inl hb))
    · exact (sub b hb).imp (fun q => .inl (.inr q)) id
    · exact .inl (.inr hb)
  have aOut : ∀ b ∈ A ++ B, b ≠ a := fun b hb q => by
    subst q
    rcases List.mem_append.mp hb with q | q
    · exact (List.nodup_append.mp (List.nodup_append.mp nd).1).2.2 b q b ha rfl
    · exact (List.nodup_append.mp nd).2.2 b (List.mem_append_right _ ha) b q rfl
  have own : ∀ b, b ∈ F1 ∨ b ∈ Fs → b ∈ F ∨ H b = none := fun b hb => h.stp.own b (List.mem_append.mpr hb.symm)
  refine ⟨⟨h.stp.ex, fun b ob hb hf => ?_, fun b ob hb => ?_, fun b hb => own b (inF b hb), fun q => nomatch q⟩, ⟨fun b ob hb => ?_, put I1 _ s' Ft' (Ex.refl _) (fun b hb => upd_ne (aOut b hb)) r, ?_, fun b hb => (inF b hb).elim (h.w.fr b) (h.fr b)⟩⟩
  · obtain ⟨k1, k2⟩ := h.stp.old b ob hb hf
    have ne : b ≠ a := fun q => by
      subst q
      exact (own b (.inl aF)).elim hf fun z => by rw [hb] at z; cases z
    exact ⟨by rw [upd_ne ne]; exact k1, k2⟩
  · obtain ⟨o', h'⟩ := h.stp.dom b ob hb
    by_cases ne : b = a
    · exact ⟨ho, by rw [ne, upd_same]⟩
    · exact ⟨o', by rw [upd_ne ne]; exact h'⟩
  · have ne : b ≠ a := fun q => by
      subst q
      rw [h.w.fr b aF] at hb; cases hb
    rw [upd_ne ne]
    exact h.w.ex b ob hb
  · have out : ∀ b ∈ A ++ B, b ∉ Ft' := fun b hb hf => by
      rcases sub b hf with q | q
      · rcases List.mem_append.mp hb with z | z
        · exact (List.nodup_append.mp (List.nodup_append.mp nd).1).2.2 b z b q rfl
        · exact (List.nodup_append.mp nd).2.2 b (List.mem_append_right _ q) b z rfl
      · refine (List.nodup_append.mp h.nd).2.2 b q b ?_ rfl
        rw [hF]
        rcases List.mem_append.mp hb with z | z <;> simp [z]
    refine List.nodup_append.mpr ⟨List.nodup_append.mpr ⟨(List.nodup_append.mp (List.nodup_append.mp nd).1).1, nd', fun b hb c hc q => out b (List.mem_append_left _ hb) (q ▸ hc)⟩, (List.nodup_append.mp nd).2.1, fun b hb c hc q => ?_⟩
    subst q
    rcases List.mem_append.mp hb with z | z
    · exact (List.nodup_append.mp nd).2.2 b (List.mem_append_left _ z) b hc rfl
    · exact out b (List.mem_append_right _ hc) z
theorem Hld.wlist (h : Hld G n I H F σ [] [] e1 I1 H1 [] F1) {i : Nat} {fs : List Nat} {ys : List PV} (g : getP e1 i fs = some (.olst ys)) :
    ∃ a ws, PathV G H1 σ i fs (.ref a) ∧ H1 a = some (.lst ws) ∧ RepL G I1 ws ys ∧ ∀ {ws' : List V} {ys' : List PV} {p : PV} {v : V} {Q : VK}, RepL G I1 ws' ys' → Rep G I1 v p → PostE G EX false (.ok (.sl (.val p)) (setP e1 i fs (.olst ys'))) I H F σ Q → Q v (upd H1 a (.lst ws')) := by
  obtain ⟨u, A, Ft, B, p, hs, hF, put⟩ := h.write g rfl (by simp)
  cases hs with
  | @olst a ws _ hh rr =>
    refine ⟨a, ws, p, hh, rr, fun {ws' ys' p v Q} r rv q => ?_⟩
    obtain ⟨st, w⟩ := put a (.lst ws') (.olst ys') [a] (by simp) (.olst upd_same r) (by simp) (fun b hb => .inl hb)
    exact q v _ _ _ [] st w (.sl (.val rv)) w.nd fun a z => nomatch z
def rM (K : PySem.W.Frag) : Mut → V → List V → Hp → VK → Prop
  | .append => rAppend
  | .pop => rPop
  | .popAt => rPopAt
  | .extend => rExtend
theorem pop_last {vs : List V} {ps : List PV} {p : PV} (r : RepL G I vs ps) (h : ps.getLast? = some p) : ∃ v, vs[vs.length - 1]? = some v ∧ Rep G I v p := by
  rw [List.getLast?_eq_getElem?] at h
  rw [r.length]
  exact r.get h
theorem ix_seq' {n : Nat} {i : Int} {k : Nat} (h : L2.ixN n i = some k) : PySem.seqIndex? i n = some k := (ixN_seq h).1
theorem BReps.one {p : PV} (h : BReps G I H vs [p]) : ∃ v, vs = [v] ∧ BRep G I H v p := by
  cases h with
  | cons h r => cases r; exact ⟨_, rfl, h⟩
theorem BReps.zero (h : BReps G I H vs []) : vs = [] := by cases h; rfl
theorem RepL.one {p : PV} (h : RepL G I vs [p]) : ∃ v, vs = [v] ∧ Rep G I v p := by
  cases h with
  | cons h r => cases r; exact ⟨_, rfl, h⟩
theorem Hld.mut (h : Hld G n I H F σ vs xs e1 I1 H1 Fs F1) {mt : Mut} {i : Nat} {fs : List Nat} (p : PathV G H1 σ i fs u) (q : PostE G EX false (kMut mt i fs xs e1) I H F σ Q) : rM G.K mt u vs H1 Q := by
  unfold kMut at q
  cases g : getP e1 i fs with
  | none => rw [g] at q; exact q.elim
  | some s =>
    cases z : argV mt e1 xs with
    | none => rw [g, z] at q; exact q.elim
    | some ps =>
      rw [g, z] at q
      dsimp only at q
      cases zm : mutS mt s ps with
      | none => rw [zm] at q; exact q.elim
      | some rs =>
        rw [zm] at q
        obtain ⟨r, s'⟩ := rs
        dsimp only at q
        have hs : ∃ ys, s = .olst ys := by
          cases mt <;> cases s <;> first | exact ⟨_, rfl⟩ | cases zm
        obtain ⟨ys, rfl⟩ := hs
        cases mt with
        | append =>
          obtain ⟨I2, h2, rl⟩ := h.up z
          obtain ⟨a, ws, pp, hh, rr, fin⟩ := h2.wlist g (EX := EX)
          rw [p.det pp]
          cases ps with
          | nil => cases zm
          | cons p0 ps =>
            cases ps with
            | cons _ _ => cases zm
            | nil =>
              have zm' : (if ys.length < lim then some (Slot.val .non, Slot.olst (ys ++ [p0])) else none) = some (r, s') := zm
              by_cases c : ys.length < lim
              · rw [if_pos c] at zm'
                cases zm'
                obtain ⟨v, rfl, rv⟩ := rl.one
                exact ⟨a, ws, v, rfl, rfl, hh, by rw [rr.length]; exact Nat.lt_of_lt_of_le c lim_le, fin (rr.snoc rv) .non q⟩
              · rw [if_neg c] at zm'; cases zm'
        | pop =>
          obtain ⟨a, ws, pp, hh, rr, fin⟩ := h.nil.wlist g (EX := EX)
          rw [p.det pp]
          have br := h.ev.b h.w z
          cases ps with
          | cons _ _ => cases zm
          | nil =>
            have zm' : (match ys.getLast? with | some v => some (Slot.val v, Slot.olst ys.dropLast) | none => none) = some (r, s') := zm
            cases zl : ys.getLast? with
            | none => rw [zl] at zm'; cases zm'
            | some pv =>
              rw [zl] at zm'
              cases zm'
              obtain ⟨v, hv, rv⟩ := pop_last rr zl
              exact ⟨a, ws, v, rfl, br.zero, hh, hv, fin rr.dropLast rv q⟩
        | popAt =>
          obtain ⟨a, ws, pp, hh, rr, fin⟩ := h.nil.wlist g (EX := EX)
          rw [p.det pp]
          have br := h.ev.b h.w z
          cases ps with
          | nil => cases zm
          | cons p0 ps =>
            cases ps with
            | cons _ _ => cases p0 <;> cases zm
            | nil =>
              cases p0 with
              | int j =>
                have zm' : (match L2.ixN ys.length j with
                  | some k => match ys[k]? with
                    | some v => if -(2 ^ 63) ≤ j ∧ j < 2 ^ 63 then some (Slot.val v, Slot.olst (ys.eraseIdx k)) else none
                    | none => none
                  | none => none) = some (r, s') := zm
                cases zk : L2.ixN ys.length j with
                | none => rw [zk] at zm'; cases zm'
                | some k =>
                  rw [zk] at zm'
                  dsimp only at zm'
                  cases zv : ys[k]? with
                  | none => rw [zv] at zm'; cases zm'
                  | some pv =>
                    rw [zv] at zm'
                    dsimp only at zm'
                    by_cases c : -(2 ^ 63) ≤ j ∧ j < 2 ^ 63
                    · rw [if_pos c] at zm'
                      cases zm'
                      obtain ⟨v, rfl, bv⟩ := br.one
                      obtain ⟨w, hw, rw'⟩ := rr.get zv
                      exact ⟨a, ws, j, k, w, rfl, by rw [bv.to_int], hh, c.1, c.2, by rw [rr.length]; exact ix_seq' zk, hw, fin (rr.eraseIdx k) rw' q⟩
                    · rw [if_neg c] at zm'; cases zm'
              | _ => cases zm
        | extend =>
          obtain ⟨a, ws, pp, hh, rr, fin⟩ := h.nil.wlist g (EX := EX)
          rw [p.det pp]
          have br := h.ev.b h.w z
          cases ps with
          | nil => cases zm
          | cons p0 ps =>
            cases ps with
            | cons _ _ => cases p0 <;> cases zm
            | nil =>
              cases p0 with
              | lst zs =>
                have zm' : (if ys.length + zs.length ≤ lim then some (Slot.val .non, Slot.olst (ys ++ zs)) else none) = some (r, s') := zm
                by_cases c : ys.length + zs.length ≤ lim
                · rw [if_pos c] at zm'
                  cases zm'
                  obtain ⟨v, rfl, bv⟩ := br.one
                  obtain ⟨b, us, rfl, hb, rb⟩ := bv.to_lst h.w.ex
                  exact ⟨a, b, ws, us, rfl, rfl, hh, hb, by rw [rr.length, rb.length]; exact Nat.le_trans c lim_le, fin (rr.append rb) .non q⟩
                · rw [if_neg c] at zm'; cases zm'
              | _ => cases zm
def mutId : Mut → String
  | .append => "list.append"
  | .pop => "list.pop"
  | .popAt => "list.pop"
  | .extend => "list.extend"
def mutN : Mut → Str
  | .append => "append"
  | .pop => "pop"
  | .popAt => "pop"
  | .extend => "extend"
theorem mt_M {X : Cx} : ∀ mt : Mut, MtR X (mutId mt) (rM X.K mt)
  | .append => mt_append
  | .pop => mt_pop
  | .popAt => mt_popAt
  | .extend => mt_extend
theorem slot_M : ∀ mt : Mut, PySem.Slot "list" (mutN mt) (mutId mt)
  | .append => PySem.F.slot_list_append
  | .pop => PySem.F.slot_list_pop
  | .popAt => PySem.F.slot_list_pop
  | .extend => PySem.F.slot_list_extend
theorem type_M : ∀ mt : Mut, typeOf (.builtin (mutId mt)) = pure (.type "method_descriptor")
  | .append => PySem.F.type_list_append
  | .pop => PySem.F.type_list_pop
  | .popAt => PySem.F.type_list_pop
  | .extend => PySem.F.type_list_extend
end
end RF
set_option maxHeartbeats 1000000
namespace RF
open PySem PySem.Spec PyProof.Rows L2 Evl
section
variable {M : Model} {prog : Program} {w : World} {A : Around} {E : Value → Shared → Prop} {s : Shared} {K : PySem.W.Frag} {x C L f : Addr} {h₀ : Heap} {m : Str → Option Value} {ox : Obj} {od : Option Obj} {b tb : Value}
theorem ifBound_objNe {args : List Value} {Q : Option Value → Shared → Prop} (X : K.In s.heap) (I : PySem.W.InstAt s.heap x ox C od) (hs : PySem.W.findIn K (.ref C) "__ne__" = some (some (.builtin "object.__ne__")))
    (h : wpAny M A (call (.builtin "object.__ne__") (.ref x :: args)) (fun v => Q (some v)) E s) : wpAny M A (callSpecialIfBound? (.ref x) "__ne__" args) Q E s := by
  simp only [callSpecialIfBound?, bindSpecialIfBound?]
  refine wpAny_holding (wpAny_bind (wpAny_bind (wpAny_bind (I.type.here ((PySem.W.looks_findIn X hs).here ?_)))))
  refine wpAny_bind (wpAny_askSetting (wpAny_ite ?_))
  have fin : wpAny M A (call (.builtin "object.__ne__") ([.ref x] ++ args) >>= fun v => pure (some v)) Q E s := wpAny_bind (wpAny_mono h (fun v s' h' => wpAny_pure h') fun _ _ h' => h')
  split
  · exact wpAny_bind (wpAny_of_eq (F.cmp_object.ne.bind _) (wpAny_pure (by exact fin)))
  · exact wpAny_tryCatch (wpAny_bind (wpAny_of_eq (F.cmp_object.ne.bind _) (wpAny_pure (by exact fin))))
theorem entry_ne {Q : PySem.Fin → Shared → Prop} (hu : A.units < cLine) (X : K.In s.heap) (I : PySem.W.InstAt s.heap x ox C od) (hs : PySem.W.findIn K (.ref C) "__eq__" = some (some (.ref f))) (hf : PySem.W.isFn K (.ref f) = true)
    (h : wpAny (model prog w) A (call (.ref f) [.ref x, b]) (fun v s' => ∃ r, v = .bool r ∧ Q (.done (.ret (.bool (!r)))) s') E s) : wpAny (model prog w) A (Builtin.«object.__ne__» ⟨[.ref x, b], []⟩) Q E s := by
  unfold Builtin.«object.__ne__»
  repeat (first
    | with_reducible refine wpAny_cRoomFor hu ?_
    | (refine wpAny_bind (m := callSpecialIfBound? (.ref x) (Str.ofString "__eq__") [b])
        (PySem.W.ifBound_K X I hs hf (wpAny_mono h (fun r s' hr => by
          obtain ⟨b, rfl, hq⟩ := hr
          repeat (first | exact hq | exact wpAny_pure hq | exact wpAny_truthy_bool hq | (refine wpAny_bind (m := truthy (.bool _)) (wpAny_truthy_bool ?_)) | wp_step)) fun _ _ e => e)))
    | wp_step)
theorem ne_K {Q : Value → Shared → Prop} (hu : A.units + 1 < cLine) (Fr0 : Fr h₀ L s.heap m) (X₀ : K.In h₀) (I : PySem.W.InstAt s.heap x ox C od) (hb : PySem.W.Looks (model prog w) s.heap (typeOf b) tb) (hn : PySem.W.notFirst K C tb = true)
    (hs : PySem.W.findIn K (.ref C) "__eq__" = some (some (.ref f))) (hf : PySem.W.isFn K (.ref f) = true) (hne : PySem.W.findIn K (.ref C) "__ne__" = some (some (.builtin "object.__ne__"))) (hm : PySem.W.mroIn K C (.type "object") = some true)
    (h : wpAny (model prog w) A.in1 (call (.ref f) [.ref x, b]) (fun v s' => ∃ r, v = .bool r ∧ Q (.bool (!r)) s') E s) : wpAny (model prog w) A (richCompare .NotEq (.ref x) b) Q E s := by
  have X := X₀.keeps Fr0.keep
  have one : wpAny (model prog w) A (tryCompare (.ref x) "__ne__" b) (fun r s' => ∃ v, r = some v ∧ Q v s') E s := by
    unfold tryCompare
    refine wpAny_bind (ifBound_objNe X I hne (wpAny_call (codeAny_call_builtin F.cmp_object.ne.plain F.cmpEntry_ne (PySem.W.check_slot F.cmpKind_ne F.cmpSplit_ne (I.type.andThen (PySem.W.looks_mroIn X hm)) (F.cmpArgs_ne _ _)
      (entry_ne (A := A.in1) hu X I hs hf (wpAny_mono h (fun v s' hv => ?_) fun _ _ e => e))))))
    obtain ⟨r, rfl, hq⟩ := hv
    exact ⟨r, rfl, wpAny_pure ⟨_, rfl, hq⟩⟩
  unfold richCompare
  simp only [oneThing_ref]
  refine wpAny_holding (wpAny_bind (wpAny_cRoomFor (by omega) ?_))
  rw [cmpInfo_NotEq]
  dsimp only
  refine wpAny_bind (I.type.here (wpAny_bind (hb.here ?_)))
  split
  · rename_i q
    have e : PySem.W.subIn K tb (.ref C) = some false := by
      rcases Bool.or_eq_true_iff.mp hn with e | e
      · rw [beq_iff_eq.mp e] at q; simp at q
      · exact beq_iff_eq.mp e
    refine wpAny_bind ((PySem.W.looks_subIn X e).here ?_)
    simp only [Bool.false_eq_true, if_false]
    refine wpAny_bind (wpAny_mono one (fun r s' z => ?_) fun _ _ e => e)
    obtain ⟨v, rfl, hq⟩ := z
    exact wpAny_pure hq
  · refine wpAny_bind (wpAny_pure ?_)
    simp only [Bool.false_eq_true, if_false]
    refine wpAny_bind (wpAny_mono one (fun r s' z => ?_) fun _ _ e => e)
    obtain ⟨v, rfl, hq⟩ := z
    exact wpAny_pure hq
theorem sub_tuple : PySem.W.subIn K (.type "tuple") (.ref C) = some false := by
  have e : fastBuiltinMro "tuple" = some [.type "tuple", .type "object"] := by decide +kernel
  show (fastBuiltinMro "tuple").map (·.contains (.ref C)) = some false
  rw [e]
  first
    | rfl
    | simp
end
section
variable {G : Gr} {EX : WX} {n m nc : Bool} {I I1 I' H H1 H' : Hp} {F F1 F' Fs Fx Gs : List Addr} {σ : L2.St} {e e1 e' : RF.Env} {v u : V} {x y : EV} {vs : List V} {xs : List EV} {s : Slot} {Q : VK}
theorem t_bi0 {f g : FE} {k : EV → EV → FE} {t' : V → V → Hp → VK → Prop} (hs : Roots f ∨ m = true)
    (hk : ∀ {I H F I1 H1 F1 Fs v u x y e1 Q}, Hld G (n && m) I H F σ [v, u] [x, y] e1 I1 H1 Fs F1 → PostE G EX false (k x y e1) I H F σ Q → t' v u H1 Q)
    (z : tE G EX false (fun e => (f e).bind fun x e => (g e).bind (k x)) σ H Q) : tE G EX n f σ H fun v H1 => tE G EX m g σ H1 fun u H2 => t' v u H2 Q := by
  obtain ⟨I, e, F, w, q⟩ := z
  try dsimp only at q
  refine (Hld.start w).eval (m := n) (fun x hx => nomatch hx) ?_
  cases z : f e with
  | ok x e' =>
    rw [z] at q
    refine fun v I' H' Gs F' h => h.eval (m := m) (fun x' hx => ?_) ?_
    · rw [List.mem_singleton.mp hx]
      cases x with
      | sl s => trivial
      | pl i fs => exact hs.imp (fun r => r _ _ _ _ z) id
    · cases z2 : g e' with
      | ok y e2 =>
        have q2 : PostE G EX false (k x y e2) I H F σ Q := by
          have := q
          rw [show (R.ok x e').bind (fun x e => (g e).bind (k x)) = (g e').bind (k x) from rfl, z2] at this
          exact this
        exact fun u I2 H2 Gs2 F2 h2 => hk h2 q2
      | exc y e2 =>
        rw [show (R.ok x e').bind (fun x e => (g e).bind (k x)) = (g e').bind (k x) from rfl, z2] at q
        exact q
      | bad =>
        rw [show (R.ok x e').bind (fun x e => (g e).bind (k x)) = (g e').bind (k x) from rfl, z2] at q
        exact q.elim
  | exc x e' => rw [z] at q; exact q
  | bad => rw [z] at q; exact q
def EqT (X : Cx) (G : Gr) (g : RF.Gl) (k m : Nat) (EX : WX) (σ : L2.St) : R2 := fun x y H Q => ∃ a c dx gs fa i np, x = .ref a ∧ H a = some (.ins (G.cl c) dx gs) ∧ Meth X.K (G.cl c) "__eq__" fa ∧ FnF X G g.sem k i fa ∧
  ((∃ b dx gs, y = .ref b ∧ H b = some (.ins (G.cl c) dx gs)) ∨ ∃ b ys, y = .ref b ∧ SqT X.K H b ys) ∧ g.met c m = some i ∧ spEv G np (g.sem i) [x, y] H Q (WE EX σ) ∧ ∀ ss, g.sem i ss ≠ .bad → ss.length = np
theorem clsOf_fr {t : Slot} {c : Nat} (h : clsOf (some t) = some c) : ∃ gs, frz t = .ins c gs := by
  cases t with
  | oins c' as => cases h; exact ⟨frzF as, by rw [frz]⟩
  | val p =>
    cases p with
    | ins c' as => cases h; exact ⟨as, by rw [frz]⟩
    | _ => cases h
  | _ => cases h
theorem t_ieq {X : Cx} {g : RF.Gl} {k mt : Nat} {f h : FE} (hK : X.K = G.K) (hM : MetF X G g k mt "__eq__") (hs : Roots f ∨ m = true) (z : tE G EX false (fun e => (f e).bind fun x e => (h e).bind (kIeq g mt x)) σ H Q) :
    tE G EX n f σ H fun v H1 => tE G EX m h σ H1 fun u H2 => EqT X G g k mt EX σ v u H2 Q := by
  refine t_bi0 (t' := EqT X G g k mt EX σ) hs (fun {I H F I1 H1 F1 Fs v u x y e1 Q} hh q => ?_) z
  unfold kIeq at q
  by_cases ok : eqOk e1 x y = true
  case neg => rw [if_neg ok] at q; exact q.elim
  rw [if_pos ok] at q
  unfold eqOk at ok
  cases z1 : argOf e1 x with
  | none =>
    rw [z1] at ok
    exact absurd ok (by simp [clsOf])
  | some s =>
    cases z2 : argOf e1 y with
    | none =>
      rw [z2] at ok
      split at ok
      · rename_i q2; cases q2
      · cases ok
    | some t =>
      cases zc : clsOf (some s) with
      | none => rw [z1, z2, zc] at ok; cases ok
      | some c =>
        rw [z1, z2, zc] at ok
        dsimp only at ok
        unfold mthO at q
        rw [z1, zc] at q
        dsimp only at q
        cases zm : g.met c mt with
        | none => rw [zm] at q; exact q.elim
        | some i =>
          rw [zm] at q
          have q2 : PostE G EX false (callR g.sem i [x, y] e1) I H F σ Q := q
          obtain ⟨va, _⟩ := valOf_arg z1
          obtain ⟨vb, _⟩ := valOf_arg z2
          obtain ⟨_, _, _, hv, hr⟩ := hh.ev.hd
          obtain ⟨_, _, _, hu, _⟩ := hr.hd
          obtain ⟨gs, hg⟩ := clsOf_fr zc
          rw [hg] at va
          obtain ⟨a, dx, gs', rfl, hH, _⟩ := (hv.b hh.w va).to_ins hh.w.ex
          obtain ⟨fa, _, k2, k3, _⟩ := hM c i zm
          obtain ⟨fd, ps, np, k5, k6, k7⟩ := k3.ex
          refine ⟨a, c, dx, gs', fa, i, np, rfl, hH, k2, k3, ?_, zm, hh.call (fun ss _ hb => k7 ss hb) q2, k7⟩
          rw [Bool.or_eq_true] at ok
          rcases ok with ok | ok
          · obtain ⟨gs2, hg2⟩ := clsOf_fr (of_decide_eq_true ok)
            rw [hg2] at vb
            obtain ⟨b, dx', gs2', rfl, hH2, _⟩ := (hu.b hh.w vb).to_ins hh.w.ex
            exact .inl ⟨b, dx', gs2', rfl, hH2⟩
          · cases t with
            | val p =>
              cases p with
              | tup ys =>
                obtain ⟨b, ws, rfl, _, hS, _⟩ := (hu.b hh.w vb).to_tup hh.w.ex
                exact .inr ⟨b, ws, rfl, hK ▸ hS⟩
              | _ => cases ok
            | _ => cases ok
section
variable {X : Cx} {g : RF.Gl} {k mt : Nat} {pins : List (Addr × Obj)} {s : Shared} {uv vv : Value}
theorem run_any {A : Around} {fd : FuncData} {ps : List Str} {sp : Sp} {fa : Addr} {us : List Value} {vs : List V} {E : XK} {Q : VK} (F : FnOk X.prog X.w X.K X.mg X.base (CX X.prog X.w) k fa fd ps sp) (hr : Room k A) (hf : A.frames = X.A.frames) (hb : Binds X.K fd ps []) (hx : PassesAt (CX X.prog X.w) X σ E)
    (I : Inv X pins σ H s) (r : Vals vs us) (h : sp vs H Q E) : wpAny (model X.prog X.w) A (call (.ref fa) us) (EP X pins σ Q) X.xe s := by
  have hl : us.length = ps.length := by rw [← r.length]; exact F.len _ _ _ _ h
  have b := hb s us I.kIn (by rw [List.append_nil]; exact hl)
  rw [List.append_nil] at b
  have e0 : Env0 X.prog X.w X.K X.mg X.base A X.stack s H := by
    have e := I.env0
    exact ⟨by rw [hf]; exact e.frames, e.mod, e.bs, e.bsz, e.funs, e.frf, e.hok, e.bare⟩
  refine wpAny_call (codeAny_mono (F.run A X.stack s H ⟨us, []⟩ us vs Q E hr e0 b r h) fun r s' hq => ?_)
  cases r with
  | error e => exact hx pins H s e s' I hq
  | ok fl =>
    cases fl with
    | ret u => exact I.after hq
    | next => exact False.elim hq
    | brk => exact False.elim hq
    | cont => exact False.elim hq
theorem looks_right {M : Model} {c : Nat} {yv : V} (I : Inv X pins σ H s) (ry : RelV yv uv) (d : (∃ b dx gs, yv = .ref b ∧ H b = some (.ins (G.cl c) dx gs)) ∨ ∃ b ys, yv = .ref b ∧ SqT X.K H b ys) :
    ∃ tb, PySem.W.Looks M s.heap (typeOf uv) tb ∧ PySem.W.notFirst X.K (G.cl c) tb = true := by
  rcases d with ⟨b, dx, gs, rfl, hH⟩ | ⟨b, ys, rfl, hS⟩
  · cases ry
    obtain ⟨mB, J', _⟩ := ins_get I.hok hH
    obtain ⟨od', J', _⟩ := J'.look
    exact ⟨_, J'.type, by simp [PySem.W.notFirst]⟩
  · cases ry
    obtain ⟨its, _, ⟨o, ho, hc, _⟩, _⟩ := I.tuple hS
    refine ⟨.type "tuple", ?_, ?_⟩
    · rw [← hc]; exact (PySem.W.Looks.ld ho).andThen .now
    · unfold PySem.W.notFirst
      rw [sub_tuple]
      simp
theorem run_eq {xv yv : V} (tk : Takes X EX) (hr : Room k X.A) (I : Inv X pins σ H s) (rx : RelV xv vv) (ry : RelV yv uv) (d : EqT X G g k mt EX σ xv yv H Q) : wpAny (model X.prog X.w) X.A (richCompare .Eq vv uv) (EP X pins σ Q) X.xe s := by
  obtain ⟨a, c, dx, gs, fa, i, np, rfl, hH, hm, hF, hy, _, sp, hl⟩ := d
  obtain ⟨tb, hb, hn⟩ := looks_right (M := model X.prog X.w) I ry hy
  cases rx
  obtain ⟨mA, J, _⟩ := ins_get I.hok hH
  obtain ⟨od, J, _⟩ := J.look
  obtain ⟨m0, hFr⟩ := I.fr
  obtain ⟨fd, ps, np', k5, k6, k7⟩ := hF.ex
  have e2 : np = np' := by
    obtain ⟨_, I0, F0, ss, _, _, _, _, hP⟩ := sp
    have hb : g.sem i ss ≠ .bad := fun hb => by rw [hb] at hP; exact hP
    rw [← hl ss hb, k7 ss hb]
  subst e2
  refine PySem.W.cmp_K (op := .Eq) (tb := tb) (by have := hr.un; omega) hFr I.ok.mod.kin J hb hn hm.at_ hm.fn ?_
  refine wpAny_mono (run_any (us := [.ref a, uv]) (vs := [.ref a, yv]) k5 hr rfl k6 (passAt tk σ) I (.cons rfl (.cons ry .nil)) sp) (fun v s' hq => ?_) fun _ _ z => z
  obtain ⟨z, H', I', rz, q⟩ := hq
  have : v ≠ .notImplemented := fun e => by subst e; cases z <;> first | (obtain ⟨_, rz⟩ := rz; cases rz; done) | cases rz
  unfold PySem.W.CmpBack
  split
  · exact absurd rfl this
  · exact ⟨z, H', I', rz, q⟩
theorem run_ne {xv yv : V} (tk : Takes X EX) (hr : Room (k + 1) X.A) (I : Inv X pins σ H s) (rx : RelV xv vv) (ry : RelV yv uv)
    (hE : ∀ c i, g.met c mt = some i → PySem.W.findIn X.K (.ref (G.cl c)) "__ne__" = some (some (.builtin "object.__ne__")) ∧ PySem.W.mroIn X.K (G.cl c) (.type "object") = some true)
    (d : EqT X G g k mt EX σ xv yv H fun v H1 => ∃ r, v = .bl r ∧ Q (.bl (!r)) H1) : wpAny (model X.prog X.w) X.A (richCompare .NotEq vv uv) (EP X pins σ Q) X.xe s := by
  obtain ⟨a, c, dx, gs, fa, i, np, rfl, hH, hm, hF, hy, hi, sp, hl⟩ := d
  obtain ⟨tb, hb, hn⟩ := looks_right (M := model X.prog X.w) I ry hy
  obtain ⟨n1, n2⟩ := hE c i hi
  cases rx
  obtain ⟨mA, J, _⟩ := ins_get I.hok hH
  obtain ⟨od, J, _⟩ := J.look
  obtain ⟨m0, hFr⟩ := I.fr
  obtain ⟨fd, ps, np', k5, k6, k7⟩ := hF.ex
  have e2 : np = np' := by
    obtain ⟨_, I0, F0, ss, _, _, _, _, hP⟩ := sp
    have hb : g.sem i ss ≠ .bad := fun hb => by rw [hb] at hP; exact hP
    rw [← hl ss hb, k7 ss hb]
  subst e2
  refine ne_K (tb := tb) (by have := hr.un; omega) hFr I.ok.mod.kin J hb hn hm.at_ hm.fn n1 n2 ?_
  refine wpAny_mono (run_any (us := [.ref a, uv]) (vs := [.ref a, yv]) (A := X.A.in1) k5 hr.in1 rfl k6 (passAt tk σ) I (.cons rfl (.cons ry .nil)) sp) (fun v s' hq => ?_) fun _ _ z => z
  obtain ⟨z, H', I', rz, r, rfl, q⟩ := hq
  cases rz
  exact ⟨r, rfl, .bl (!r), H', I', rfl, q⟩
end
end
end RF
set_option maxHeartbeats 1000000
namespace RF
open PySem PySem.Spec PyProof.Rows L2 Evl
def tlen : T → Nat
  | .cons _ r => tlen r + 1
  | _ => 0
mutual
def tgR (K : PySem.W.Frag) : T → TG
  | .tnm i => gName i
  | .ttp ts => gTup K (tlen ts) (tgsR K ts)
  | _ => fun _ _ _ _ => False
def tgsR (K : PySem.W.Frag) : T → TGs
  | .nil => gNil
  | .cons t r => gCons (tgR K t) (tgsR K r)
  | _ => fun _ _ _ _ => False
end
def tgIx : T → List Nat
  | .tnm i => [i]
  | .ttp ts => tgIx ts
  | .cons t r => tgIx t ++ tgIx r
  | _ => []
section
variable {G : Gr} {EX : WX} {n m l nc k : Bool} {I I1 I' H H1 H' : Hp} {F F1 F' Fs Fx Gs : List Addr} {σ σ' : L2.St} {e e1 e' : RF.Env} {v u : V} {x y : EV} {vs : List V} {xs : List EV} {s : Slot} {ps : List PV} {Q : VK} {own : List Nat}
theorem W.store (w : W G I H σ e F) {p : PV} (r : Rep G I v p) (i : Nat) : ∃ F', W G I H (σ.set i (some v)) (e.set i (.val p)) F' ∧ F'.Sublist F := by
  obtain ⟨F', en, F0, hs, hF⟩ := w.env.set i (SRep.val (H := H) r)
  have sub : F'.Sublist F := by
    rcases hF with rfl | ⟨A, B, rfl, rfl⟩
    · exact hs
    · rw [List.append_nil]; exact hs
  exact ⟨F', ⟨w.ex, en, w.nd.sublist sub, fun a ha => w.fr a (sub.subset ha)⟩, sub⟩
theorem asgTs_len : ∀ {t : T} {ps : List PV} {e e' : RF.Env}, asgT.asgTs t ps e = some e' → ps.length = tlen t := by
  intro t
  induction t with
  | nil =>
    intro ps e e' a
    cases ps with
    | nil => rfl
    | cons _ _ => simp [asgT.asgTs] at a
  | cons t r _ ih =>
    intro ps e e' a
    cases ps with
    | nil => simp [asgT.asgTs] at a
    | cons p ps =>
      rw [asgT.asgTs] at a
      cases z : asgT t p e with
      | none => rw [z] at a; cases a
      | some e1 =>
        rw [z] at a
        exact congrArg Nat.succ (ih a)
  | _ => intro ps e e' a; cases ps <;> simp [asgT.asgTs] at a
theorem t_tgg : ∀ (t : T), (∀ {p : PV} {v : V} {σ : L2.St} {e e' : RF.Env} {F : List Addr} {Q : L2.St → Hp → Prop}, asgT t p e = some e' → W G I H σ e F → Rep G I v p →
    (∀ σ' F', W G I H σ' e' F' → F'.Sublist F → σ'.length = σ.length → (∀ j, j ∉ tgIx t → σ'[j]? = σ[j]?) → Q σ' H) → tgR G.K t v σ H Q) ∧
    (∀ {ps : List PV} {vs : List V} {σ : L2.St} {e e' : RF.Env} {F : List Addr} {Q : L2.St → Hp → Prop}, asgT.asgTs t ps e = some e' → W G I H σ e F → RepL G I vs ps →
    (∀ σ' F', W G I H σ' e' F' → F'.Sublist F → σ'.length = σ.length → (∀ j, j ∉ tgIx t → σ'[j]? = σ[j]?) → Q σ' H) → tgsR G.K t vs σ H Q) := by
  intro t
  induction t with
  | tnm i =>
    refine ⟨fun {p v σ e e' F Q} a w r q => ?_, fun {ps vs σ e e' F Q} a w r q => by cases ps <;> simp [asgT.asgTs] at a⟩
    rw [asgT] at a
    cases a
    obtain ⟨F', w', sub⟩ := w.store r i
    refine q _ F' w' sub (by simp) fun j hj => ?_
    rw [tgIx, List.mem_singleton] at hj
    exact List.getElem?_set_ne (Ne.symm hj)
  | ttp ts ih =>
    refine ⟨fun {p v σ e e' F Q} a w r q => ?_, fun {ps vs σ e e' F Q} a w r q => by cases ps <;> simp [asgT.asgTs] at a⟩
    cases p with
    | tup xs =>
      rw [asgT] at a
      cases r with
      | @tup b vs _ h rl => exact ⟨b, vs, rfl, ex_t w.ex h, by rw [rl.length]; exact asgTs_len a, ih.2 a w rl q⟩
    | _ => simp [asgT] at a
  | nil =>
    refine ⟨fun {p v σ e e' F Q} a w r q => by simp [asgT] at a, fun {ps vs σ e e' F Q} a w r q => ?_⟩
    cases ps with
    | nil =>
      simp [asgT.asgTs] at a
      subst a
      cases r
      exact ⟨rfl, q σ F w (List.Sublist.refl _) rfl fun _ _ => rfl⟩
    | cons _ _ => simp [asgT.asgTs] at a
  | cons t ts ih1 ih2 =>
    refine ⟨fun {p v σ e e' F Q} a w r q => by simp [asgT] at a, fun {ps vs σ e e' F Q} a w r q => ?_⟩
    cases ps with
    | nil => simp [asgT.asgTs] at a
    | cons p ps =>
      cases r with
      | @cons v vs' _ _ h rl =>
        rw [asgT.asgTs] at a
        cases z : asgT t p e with
        | none => rw [z] at a; cases a
        | some e1 =>
          rw [z] at a
          refine ⟨v, vs', rfl, ih1.1 z w h fun σ1 F1 w1 sub hl1 hj => ih2.2 a w1 rl fun σ2 F2 w2 sub2 hl2 hj2 => q σ2 F2 w2 (sub2.trans sub) (hl2.trans hl1) fun j hjj => ?_⟩
          rw [tgIx, List.mem_append, not_or] at hjj
          exact (hj2 j hjj.2).trans (hj j hjj.1)
  | _ => exact ⟨fun {p v σ e e' F Q} a w r q => by simp [asgT] at a, fun {ps vs σ e e' F Q} a w r q => by cases ps <;> simp [asgT.asgTs] at a⟩
theorem t_tg {t : T} {p : PV} {Q : L2.St → Hp → Prop} (a : asgT t p e = some e') (w : W G I H σ e F) (r : Rep G I v p)
    (q : ∀ σ' F', W G I H σ' e' F' → F'.Sublist F → σ'.length = σ.length → (∀ j, j ∉ tgIx t → σ'[j]? = σ[j]?) → Q σ' H) : tgR G.K t v σ H Q := (t_tgg t).1 a w r q
theorem wipe_in : ∀ {vs : List Nat} {σ : L2.St} {i : Nat}, i ∈ vs → i < σ.length → (wipe σ vs)[i]? = some none
  | v :: vs, σ, i, h, hl => by
    rw [wipe]
    by_cases e : i = v
    · subst e
      rw [List.getElem?_set_self (by rw [wipe_length]; exact hl)]
    · rw [List.getElem?_set_ne (Ne.symm e)]
      exact wipe_in ((List.mem_cons.mp h).resolve_left e) hl
theorem wipe_eq {vs : List Nat} (hl : σ'.length = σ.length) (h : ∀ j, j ∉ vs → σ'[j]? = σ[j]?) : wipe σ' vs = wipe σ vs := by
  refine List.ext_getElem? fun i => ?_
  by_cases m : i ∈ vs
  · by_cases b : i < σ.length
    · rw [wipe_in m b, wipe_in m (by rw [hl]; exact b)]
    · rw [List.getElem?_eq_none (by rw [wipe_length, hl]; omega), List.getElem?_eq_none (by rw [wipe_length]; omega)]
  · rw [wipe_out m, wipe_out m]
    exact h i m
theorem wipe_wipe {vs : List Nat} : wipe (wipe σ vs) vs = wipe σ vs := wipe_eq (wipe_length _ _) fun _ h => wipe_out h
theorem EnvR.unset : ∀ {σ : L2.St} {e : RF.Env} {F : List Addr} (i : Nat), EnvR G I H σ e F → ∃ F', EnvR G I H (σ.set i none) (e.set i .dead) F' ∧ F'.Sublist F
  | _, _, _, _, .nil => ⟨[], .nil, List.Sublist.refl _⟩
  | _, _, _, 0, .no r => ⟨_, .no r, List.Sublist.refl _⟩
  | _, _, _, i + 1, .no r => by
    obtain ⟨F', h1, h2⟩ := r.unset i
    exact ⟨F', .no h1, h2⟩
  | _, _, _, 0, .hv q r => ⟨_, .no r, List.sublist_append_right _ _⟩
  | _, _, _, i + 1, .hv q r => by
    obtain ⟨F', h1, h2⟩ := r.unset i
    exact ⟨_, .hv q h1, List.Sublist.append (List.Sublist.refl _) h2⟩
theorem EnvR.wipe (r : EnvR G I H σ e F) : ∀ vs : List Nat, ∃ F', EnvR G I H (L2.wipe σ vs) (wipeE e vs) F' ∧ F'.Sublist F
  | [] => ⟨F, r, List.Sublist.refl _⟩
  | v :: vs => by
    obtain ⟨F1, h1, h2⟩ := r.wipe vs
    obtain ⟨F2, h3, h4⟩ := h1.unset v
    exact ⟨F2, h3, h4.trans h2⟩
theorem W.wipe (w : W G I H σ e F) (vs : List Nat) : ∃ F', W G I H (L2.wipe σ vs) (wipeE e vs) F' ∧ F'.Sublist F := by
  obtain ⟨F', h1, h2⟩ := w.env.wipe vs
  exact ⟨F', ⟨w.ex, h1, w.nd.sublist h2, fun a ha => w.fr a (h2.subset ha)⟩, h2⟩
def PlainS (G : Gr) (I : Hp) (o : Option (Option V)) (s : Slot) : Prop := s = .dead ∨ ∃ p v, s = .val p ∧ o = some (some v) ∧ Rep G I v p
theorem EnvR.reset : ∀ {σ : L2.St} {e : RF.Env} {F : List Addr} {i : Nat} {s : Slot}, EnvR G I H (σ.set i none) e F → PlainS G I σ[i]? s → ∃ F', EnvR G I H σ (e.set i s) F' ∧ F'.Sublist F
  | [], e, F, i, s, r, p => by
    cases r
    exact ⟨[], .nil, List.Sublist.refl _⟩
  | o :: σ, e, F, 0, s, r, p => by
    have go : ∀ {e : RF.Env} {F : List Addr}, EnvR G I H σ e F → ∃ F', EnvR G I H (o :: σ) (s :: e) F' ∧ F'.Sublist F := fun {e F} r0 => by
      rcases p with rfl | ⟨p, v, rfl, ho, rv⟩
      · exact ⟨F, .no r0, List.Sublist.refl _⟩
      · simp at ho
        subst ho
        exact ⟨[] ++ F, .hv (.val rv) r0, by simp⟩
    cases r with
    | no r =>
      obtain ⟨F', h1, h2⟩ := go r
      exact ⟨F', h1, h2⟩
  | o :: σ, e, F, i + 1, s, r, p => by
    cases r with
    | no r =>
      obtain ⟨F', h1, h2⟩ := EnvR.reset r (by simpa using p)
      exact ⟨F', .no h1, h2⟩
    | hv q r =>
      obtain ⟨F', h1, h2⟩ := EnvR.reset r (by simpa using p)
      exact ⟨_, .hv q h1, List.Sublist.append (List.Sublist.refl _) h2⟩
theorem wipe_cons (σ : L2.St) (v : Nat) : ∀ vs : List Nat, L2.wipe σ (v :: vs) = L2.wipe (σ.set v none) vs
  | [] => rfl
  | u :: vs => by
    show ((L2.wipe σ vs).set u none).set v none = (L2.wipe (σ.set v none) vs).set u none
    rw [← wipe_cons σ v vs]
    show ((L2.wipe σ vs).set u none).set v none = ((L2.wipe σ vs).set v none).set u none
    by_cases h : u = v
    · subst h; rfl
    · exact List.set_comm _ _ h
theorem plain_of (en : EnvR G I1 H1 σ e F1) (ex : Ex I1 I) {i : Nat} (h : plainAt e i = true) : PlainS G I σ[i]? (e.getD i .dead) := by
  unfold plainAt at h
  cases z : e[i]? with
  | none => rw [z] at h; cases h
  | some s =>
    rw [z] at h
    have g : e.getD i .dead = s := by simp [List.getD, z]
    rw [g]
    cases s with
    | dead => exact .inl rfl
    | val p =>
      obtain ⟨v, A, Fi, B, hv, hs, _⟩ := en.at z (by simp)
      exact .inr ⟨p, v, rfl, hv, (val_nil hs).2.mono ex⟩
    | _ => cases h
theorem EnvR.back (en : EnvR G I1 H1 σ e1 F1) (ex : Ex I1 I) : ∀ {vs : List Nat} {e : RF.Env} {F : List Addr}, (vs.all (plainAt e1)) = true → EnvR G I H (L2.wipe σ vs) e F → ∃ F', EnvR G I H σ (backE e1 e vs) F' ∧ F'.Sublist F
  | [], e, F, _, r => ⟨F, r, List.Sublist.refl _⟩
  | v :: vs, e, F, h, r => by
    rw [List.all_cons, Bool.and_eq_true] at h
    have p := plain_of en ex h.1
    -- the slot of v is set back first
    have r2 : EnvR G I H ((L2.wipe σ vs).set v none) e F := r
    by_cases m : v ∈ vs
    · have e2 : (L2.wipe σ vs).set v none = L2.wipe σ vs := by
        by_cases b : v < σ.length
        · exact set_same (wipe_in m b)
        · exact List.set_eq_of_length_le (by rw [wipe_length]; omega)
      rw [e2] at r2
      -- set within a wiped slot, then wiped names again: it is set by the rest
      have p2 : ∃ F', EnvR G I H (L2.wipe σ vs) (e.set v .dead) F' ∧ F'.Sublist F := by
        obtain ⟨F', h1, h2⟩ := r2.unset v
        rw [e2] at h1
        exact ⟨F', h1, h2⟩
      obtain ⟨F2, h1, h2⟩ := p2
      obtain ⟨F3, h3, h4⟩ := EnvR.back en ex h.2 h1
      refine ⟨F3, ?_, h4.trans h2⟩
      rw [backE]
      have e3 : ∀ (vs : List Nat) (e : RF.Env) (s t : Slot), v ∈ vs → backE e1 (e.set v s) vs = backE e1 (e.set v t) vs := by
        intro vs
        induction vs with
        | nil => intro e s t h; cases h
        | cons u us ih =>
          intro e s t h
          rw [backE, backE]
          by_cases q : u = v
          · subst q
            rw [List.set_set, List.set_set]
          · rw [List.set_comm _ _ (Ne.symm q), List.set_comm _ _ (Ne.symm q)]
            exact ih _ _ _ ((List.mem_cons.mp h).resolve_left (Ne.symm q))
      rw [e3 vs e _ .dead m]
      exact h3
    · have p' : PlainS G I (L2.wipe σ vs)[v]? (e1.getD v .dead) := by rw [wipe_out m]; exact p
      obtain ⟨F2, h1, h2⟩ := r2.reset p'
      obtain ⟨F3, h3, h4⟩ := EnvR.back en ex h.2 h1
      exact ⟨F3, h3, h4.trans h2⟩
end
end RF
set_option maxHeartbeats 1000000
namespace RF
open PySem PySem.Spec PyProof.Rows L2 Evl
structure Src (G : Gr) (J : It) (ys : List PV) (S : Hp → Hp → Prop) : Prop where
  go : ∀ i I H, Ex I H → S I H → i < ys.length → J.go i H
  stop : ∀ I H, Ex I H → S I H → J.stop ys.length H
  yld : ∀ i I H x H', Ex I H → S I H → i < ys.length → J.yld i H x H' → ∃ I' p, ys[i]? = some p ∧ New I H I' H' [] ∧ Rep G I' x p
section
variable {G : Gr} {EX : WX} {n m l nc k : Bool} {I I1 I' H H1 H' : Hp} {F F1 F' Fs Fx Gs : List Addr} {σ σ' : L2.St} {e e1 e' : RF.Env} {v u : V} {x y : EV} {vs : List V} {xs : List EV} {s : Slot} {ps ys : List PV} {Q : VK} {own : List Nat} {a : Addr}
theorem src_list {p : PV} (hp : p = .lst ys ∨ p = .xls ys) : Src G (Itl G.K a) ys (fun I H => BRep G I H (.ref a) p) := by
  have get : ∀ {I H : Hp}, Ex I H → BRep G I H (.ref a) p → ∃ ws, SqL G.K H a ws ∧ RepL G I ws ys := fun {I H} ex b => by
    rcases hp with rfl | rfl
    · obtain ⟨a', ws, e, h, r⟩ := b.to_lst ex
      cases e
      exact ⟨ws, sq_of h, r⟩
    · obtain ⟨a', ws, e, h, r⟩ := b.to_xls ex
      cases e
      exact ⟨ws, h, r⟩
  refine ⟨fun i I H ex b hi => ?_, fun I H ex b => ?_, fun i I H x H' ex b hi q => ?_⟩
  · obtain ⟨ws, h, r⟩ := get ex b
    have hl : i < ws.length := by rw [r.length]; exact hi
    exact ⟨ws, ws[i], h, List.getElem?_eq_getElem hl⟩
  · obtain ⟨ws, h, r⟩ := get ex b
    exact ⟨ws, h, by rw [r.length]; exact Nat.le_refl _⟩
  · obtain ⟨ws, h, r⟩ := get ex b
    obtain ⟨rfl, hx⟩ := q
    obtain ⟨p', hp', rp⟩ := r.getV (hx ws h)
    exact ⟨I, p', hp', New.refl ex, rp⟩
theorem src_tup : Src G (Itt G.K a) ys (fun I H => BRep G I H (.ref a) (.tup ys)) := by
  have get : ∀ {I H : Hp}, Ex I H → BRep G I H (.ref a) (.tup ys) → ∃ ws, SqT G.K H a ws ∧ RepL G I ws ys := fun {I H} ex b => by
    obtain ⟨a', ws, e, _, h, r⟩ := b.to_tup ex
    cases e
    exact ⟨ws, h, r⟩
  refine ⟨fun i I H ex b hi => ?_, fun I H ex b => ?_, fun i I H x H' ex b hi q => ?_⟩
  · obtain ⟨ws, h, r⟩ := get ex b
    have hl : i < ws.length := by rw [r.length]; exact hi
    exact ⟨ws, ws[i], h, List.getElem?_eq_getElem hl⟩
  · obtain ⟨ws, h, r⟩ := get ex b
    exact ⟨ws, h, by rw [r.length]; exact Nat.le_refl _⟩
  · obtain ⟨ws, h, r⟩ := get ex b
    obtain ⟨rfl, hx⟩ := q
    obtain ⟨p', hp', rp⟩ := r.getV (hx ws h)
    exact ⟨I, p', hp', New.refl ex, rp⟩
theorem src_range {lo hi : Int} : Src G (Itr lo (hi - lo).toNat) (rngV lo hi) (fun _ _ => True) := by
  have hlen : (rngV lo hi).length = (hi - lo).toNat := by simp [rngV]
  refine ⟨fun i I H ex b h => ?_, fun I H ex b => ?_, fun i I H x H' ex b h q => ?_⟩
  · rw [hlen] at h; exact h
  · show (hi - lo).toNat ≤ _
    rw [hlen]; exact Nat.le_refl _
  · rw [hlen] at h
    obtain ⟨rfl, rfl⟩ := q
    refine ⟨I, .int (lo + i), ?_, New.refl ex, .int _⟩
    unfold rngV
    rw [List.getElem?_map, List.getElem?_range h]
    rfl
theorem src_rangeC {lo c : Int} {n : Nat} : Src G (Itc lo c n) (rng3V lo c n) (fun _ _ => True) := by
  have hlen : (rng3V lo c n).length = n := by simp [rng3V]
  refine ⟨fun i I H ex b h => ?_, fun I H ex b => ?_, fun i I H x H' ex b h q => ?_⟩
  · rw [hlen] at h; exact h
  · show n ≤ _
    rw [hlen]; exact Nat.le_refl _
  · rw [hlen] at h
    obtain ⟨rfl, rfl⟩ := q
    refine ⟨I, .int (lo + (i : Int) * c), ?_, New.refl ex, .int _⟩
    unfold rng3V
    rw [List.getElem?_map, List.getElem?_range h]
    rfl
theorem EvRs.mv : ∀ {vs : List V} {xs : List EV} {F : List Addr}, EvRs G I H σ vs xs F → (∀ i fs, EV.pl i fs ∈ xs → σ'[i]? = σ[i]?) → EvRs G I H σ' vs xs F
  | _, _, _, .nil, _ => .nil
  | _, _, _, .cons h r, k => by
    refine .cons ?_ (r.mv fun i fs hm => k i fs (List.mem_cons_of_mem _ hm))
    cases h with
    | sl h => exact .sl h
    | pl h =>
      obtain ⟨v, h1, h2⟩ := h
      exact .pl ⟨v, by rw [k _ _ List.mem_cons_self]; exact h1, h2⟩
theorem Hld.mv (h : Hld G n I H F σ vs xs e1 I1 H1 Fs F1) (w : W G I1 H1 σ' e' F') (sub : F'.Sublist F1) (q : ∀ i fs, EV.pl i fs ∈ xs → σ'[i]? = σ[i]?) : Hld G n I H F σ' vs xs e' I1 H1 Fs F' :=
  ⟨h.stp.weak (fun z => z) fun a ha => by
    rcases List.mem_append.mp ha with q | q
    · exact List.mem_append_left _ q
    · exact List.mem_append_right _ (sub.subset q), w, h.ev.mv q, h.nd.sublist (List.Sublist.append (List.Sublist.refl _) sub), h.fr⟩
theorem Hld.fresh (h : Hld G n I H F σ vs xs e1 I1 H1 Fs F1) {D : Addr} (hD : H1 D = none) : Hld G n I H F σ (vs ++ [.ref D]) (xs ++ [.sl (.olst [])]) e1 I1 (upd H1 D (.lst [])) (Fs ++ [D]) F1 := by
  have keep : ∀ b ∈ F1, upd H1 D (.lst []) b = H1 b := fun b hb => by
    obtain ⟨o, ho⟩ := h.w.env.there b hb
    exact upd_ne (ne_of_none ho hD)
  have w := h.w.step (I' := I1) (H' := upd H1 D (.lst [])) (Ex.refl _) (h.w.ex.trans (Ex.new hD)) keep fun a ha => h.w.fr a ha
  have ID : I1 D = none := in_none h.w.ex hD
  have nD : D ∉ F1 := fun hb => by
    obtain ⟨o, ho⟩ := h.w.env.there D hb
    rw [hD] at ho; cases ho
  have z := h.next (m := true) (x := .sl (.olst [])) (v := .ref D) (fun x _ => by cases x with | sl _ => trivial | pl _ fs => exact .inr rfl) (Gs := [D]) (F' := F1) ⟨Ex.refl _, fun b o hb _ => ⟨by rw [upd_ne (ne_of_none hb hD)]; exact hb, rfl⟩, fun b o hb => ⟨o, by rw [upd_ne (ne_of_none hb hD)]; exact hb⟩, fun b hb => by
      rcases List.mem_append.mp hb with q | q
      · rw [List.mem_singleton.mp q]; exact .inr hD
      · exact .inl q, fun _ => Ex.new hD⟩ w (.sl (.olst upd_same .nil)) (List.nodup_append.mpr ⟨by simp, h.w.nd, fun b hb c hc q => nD (by rw [← List.mem_singleton.mp hb, q]; exact hc)⟩) (fun b hb => by rw [List.mem_singleton.mp hb]; exact ID)
  rwa [Bool.and_true] at z
theorem Hld.first (h : Hld G n I H F σ [v, u] [x, y] e1 I1 H1 Fs F1) : ∃ Gs, Hld G n I H F σ [v] [x] e1 I1 H1 Gs F1 := by
  obtain ⟨A, B, rfl, hv, r⟩ := h.ev.hd
  refine ⟨A ++ [], h.stp.weak (fun z => z) (fun a ha => ?_), h.w, .cons hv .nil, ?_, fun a ha => h.fr a ?_⟩
  · simp only [List.mem_append, List.append_nil] at ha ⊢
    rcases ha with q | q
    · exact .inl (.inl q)
    · exact .inr q
  · rw [List.append_nil]
    have := h.nd
    rw [List.append_assoc] at this
    exact List.nodup_append.mpr ⟨(List.nodup_append.mp this).1, (List.nodup_append.mp (List.nodup_append.mp this).2.1).2.1, fun a ha b hb => (List.nodup_append.mp this).2.2 a ha b (List.mem_append_right _ hb)⟩
  · rw [List.append_nil] at ha
    exact List.mem_append_left _ ha
theorem Hld.push {D : Addr} {acc : List PV} (h : Hld G n I H F σ [v, .ref D, u] [x, .sl (.olst acc), .sl s] e1 I1 H1 Fs F1) (hD : H D = none) (lv : live s = true) (hp : ∀ i fs, x = .pl i fs → fs = []) :
    ∃ ws I2 Gs, H1 D = some (.lst ws) ∧ ws.length = acc.length ∧ Hld G n I H F σ [v, .ref D] [x, .sl (.olst (acc ++ [frz s]))] e1 I2 (upd H1 D (.lst (ws ++ [u]))) Gs F1 := by
  obtain ⟨A1, B1, rfl, hv, r1⟩ := h.ev.hd
  obtain ⟨A2, B2, rfl, hd, r2⟩ := r1.hd
  obtain ⟨A3, B3, rfl, hu, r3⟩ := r2.hd
  cases r3
  cases hd with
  | sl hd =>
  cases hd with
  | @olst _ ws _ hh rr =>
  cases hu with
  | sl hu =>
  have nd := h.nd
  have m1 : ∀ b ∈ A1, b ∈ A1 ++ ([D] ++ (A3 ++ [])) := fun b hb => List.mem_append_left _ hb
  have mD : D ∈ A1 ++ ([D] ++ (A3 ++ [])) := by simp
  have m3 : ∀ b ∈ A3, b ∈ A1 ++ ([D] ++ (A3 ++ [])) := fun b hb => by simp [hb]
  have nd1 := (List.nodup_append.mp nd).1
  have d1 : D ∉ A1 := fun q => (List.nodup_append.mp nd1).2.2 D q D (by simp) rfl
  have d3 : D ∉ A3 := fun q => (List.nodup_append.mp (List.nodup_append.mp nd1).2.1).2.2 D (by simp) D (by simp [q]) rfl
  have dF : D ∉ F1 := fun q => (List.nodup_append.mp nd).2.2 D mD D q rfl
  have x31 : ∀ b ∈ A1, b ∉ A3 := fun b hb q => (List.nodup_append.mp nd1).2.2 b hb b (by simp [q]) rfl
  have x3F : ∀ b ∈ F1, b ∉ A3 := fun b hb q => (List.nodup_append.mp nd).2.2 b (m3 b q) b hb rfl
  have ID : I1 D = none := h.fr D mD
  have ex : Ex I1 (mergeI I1 H1 A3) := merge_ex fun b hb => h.fr b (m3 b hb)
  have own : ∀ b ∈ (A1 ++ ([D] ++ (A3 ++ []))) ++ F1, b ∈ F ∨ H b = none := h.stp.own
  have w : W G (mergeI I1 H1 A3) (upd H1 D (.lst (ws ++ [u]))) σ e1 F1 := ⟨fun b o hb => by
      have ne : b ≠ D := fun q => by
        subst q
        rw [merge_out d3, ID] at hb; cases hb
      rw [upd_ne ne]
      exact merge_in h.w.ex b o hb, h.w.env.step ex fun b hb => upd_ne fun q => dF (q ▸ hb), h.w.nd, fun b hb => (merge_out (x3F b hb)).trans (h.w.fr b hb)⟩
  refine ⟨ws, mergeI I1 H1 A3, A1 ++ ([D] ++ []), hh, rr.length, ⟨h.stp.ex.trans ex, fun b o hb hf => ?_, fun b o hb => ?_, fun b hb => own b ?_, fun q => ?_⟩, w, .cons ?_ (.cons (.sl (.olst upd_same ((rr.mono ex).snoc (hu.frozen ex lv fun b hb => merge_at hb)))) .nil), ?_, fun b hb => ?_⟩
  · obtain ⟨k1, k2⟩ := h.stp.old b o hb hf
    have ne : b ≠ D := fun q => by rw [q, hD] at hb; cases hb
    have n3 : b ∉ A3 := fun q => (own b (List.mem_append_left _ (m3 b q))).elim hf fun z => by rw [hb] at z; cases z
    exact ⟨by rw [upd_ne ne]; exact k1, (merge_out n3).trans k2⟩
  · obtain ⟨o', ho'⟩ := h.stp.dom b o hb
    have ne : b ≠ D := fun q => by rw [q, hD] at hb; cases hb
    exact ⟨o', by rw [upd_ne ne]; exact ho'⟩
  · simp only [List.mem_append, List.append_nil, List.mem_cons, List.not_mem_nil, or_false] at hb ⊢
    rcases hb with (q | q) | q
    · exact .inl (.inl q)
    · exact .inl (.inr (.inl q))
    · exact .inr q
  · intro b o hb
    have ne : b ≠ D := fun z => by rw [z, hD] at hb; cases hb
    rw [upd_ne ne]
    exact h.stp.keep q b o hb
  · cases hv with
    | sl hv => exact .sl (hv.step ex fun b hb => upd_ne fun q => d1 (q ▸ hb))
    | pl hv =>
      have e0 := hp _ _ rfl
      subst e0
      obtain ⟨v0, h1, h2⟩ := hv
      cases h2
      exact .pl ⟨_, h1, .nil⟩
  · have := nd
    simp only [List.append_nil] at this ⊢
    refine this.sublist ?_
    exact List.Sublist.append (List.Sublist.append (List.Sublist.refl _) (List.sublist_append_left _ _)) (List.Sublist.refl _)
  · simp only [List.mem_append, List.append_nil, List.mem_cons, List.not_mem_nil, or_false] at hb
    rcases hb with q | q
    · exact (merge_out (x31 b q)).trans (h.fr b (m1 b q))
    · rw [q]; exact (merge_out d3).trans ID
abbrev EXf : WX := fun _ _ _ _ => False
theorem lc_in {J : It} {S : Hp → Hp → Prop} {tg : T} {c : FT} {el : FE} (src : Src G J ys S) (h1 : Hld G n I H F σ [v] [x] e1 I1 H1 Fs F1) (st : ∀ i fs, x = .pl i fs → fs = []) (ro : rootOut own x = true) (tgo : ∀ j ∈ tgIx tg, j ∈ own)
    (hS : ∀ {k : Bool} {I0 H0 : Hp} {F0 : List Addr} {I' H' : Hp} {e' : RF.Env} {Gs F' : List Addr}, Hld G k I0 H0 F0 (wipe σ own) [v] [x] e' I' H' Gs F' → sameAt (wipeE e1 own) e' x = true → S I' H') (pl : (own.all (plainAt e1)) = true) {accE : List PV} {eE : RF.Env}
    (hl : lcL tg own (fun e2 => sameAt (wipeE e1 own) e2 x) c el ys [] (wipeE e1 own) = .ok accE eE) (q : PostE G EX (n && (m && l)) (.ok (.sl (.olst accE)) (backE e1 eE own)) I H F σ Q) :
    ∀ D, H1 D = none → ∃ W : Nat → Nat → Hp → Prop, (∃ m, W 0 m (upd H1 D (.lst []))) ∧ ∀ i m0 H, W i m0 H →
      (J.stop i H ∧ Q (.ref D) H) ∨ (J.go i H ∧ ∃ Nx : Hp → Prop, (∀ H', Nx H' → ∃ m', m' < m0 ∧ W (i + 1) m' H') ∧ ∀ x H', J.yld i H x H' → tgR G.K tg x (wipe σ own) H' fun σ2 H2 => wipe σ2 own = wipe σ own ∧ tT G EXf m c σ2 H2 fun b H3 =>
        if b = true then tE G EXf l el σ2 H3 fun y H4 => ∃ acc, H4 D = some (.lst acc) ∧ acc.length < sizeLine ∧ Nx (upd H4 D (.lst (acc ++ [y]))) else Nx H3) := by
  intro D hD
  have rout : ∀ i fs, EV.pl i fs = x → i ∉ own := fun i fs q => by
    subst q
    simpa [rootOut] using ro
  have rE : ∀ {σ2 : L2.St}, wipe σ2 own = wipe σ own → ∀ i fs (acc : List PV), EV.pl i fs ∈ [x, .sl (.olst acc)] → σ2[i]? = (wipe σ own)[i]? := fun {σ2} hw i fs acc hm => by
    have hi : i ∉ own := by
      rcases List.mem_cons.mp hm with q | q
      · exact rout i fs q
      · rcases List.mem_cons.mp q with q | q
        · cases q
        · cases q
    rw [← wipe_out hi, hw]
  have hb1 : Hld G true I1 H1 (Fs ++ F1) σ [v] [x] e1 I1 H1 Fs F1 := ⟨Stp.refl _, h1.w, h1.ev, h1.nd, h1.fr⟩
  -- what holds ahead of each turn
  let Pv : Nat → Hp → Prop := fun i H' => ∃ acc e' I' Gs F', Hld G (m && l) I1 H1 (Fs ++ F1) (wipe σ own) [v, .ref D] [x, .sl (.olst acc)] e' I' H' Gs F' ∧ sameAt (wipeE e1 own) e' x = true ∧
    lcL tg own (fun e2 => sameAt (wipeE e1 own) e2 x) c el (ys.drop i) acc e' = .ok accE eE ∧ i ≤ ys.length
  have p0 : Pv 0 (upd H1 D (.lst [])) := by
    obtain ⟨F2, w2, s2⟩ := h1.w.wipe own
    have h2 := hb1.mv (σ' := wipe σ own) w2 s2 fun i fs hm => by
      rcases List.mem_cons.mp hm with q | q
      · exact wipe_out (rout i fs q)
      · cases q
    have h3 := h2.fresh hD
    refine ⟨[], _, _, _, _, ⟨h3.stp.less fun z => rfl, h3.w, h3.ev, h3.nd, h3.fr⟩, ?_, ?_, Nat.zero_le _⟩
    · cases x with
      | sl _ => rfl
      | pl i fs => exact decide_eq_true rfl
    · rw [List.drop_zero]; exact hl
  refine ⟨fun i m0 H' => Pv i H' ∧ m0 = ys.length - i, ⟨_, p0, rfl⟩, fun i m0 H' ⟨⟨acc, e', I', Gs, F', h2, sa, hl2, hi⟩, hm0⟩ => ?_⟩
  obtain ⟨Gs1, h2f⟩ := h2.first
  have hs := hS h2f sa
  by_cases hlt : i < ys.length
  · refine .inr ⟨src.go i I' H' h2.w.ex hs hlt, Pv (i + 1), fun H'' p => ⟨ys.length - (i + 1), by omega, p, rfl⟩, fun xv H2 hy => ?_⟩
    obtain ⟨I2, p, hp, new, rp⟩ := src.yld i I' H' xv H2 h2.w.ex hs hlt hy
    have h3 := h2.grow new
    have hdrop : ys.drop i = p :: ys.drop (i + 1) := by
      obtain ⟨hb, he⟩ := List.getElem?_eq_some_iff.mp hp
      rw [List.drop_eq_getElem_cons hb, he]
    rw [hdrop] at hl2
    rw [lcL] at hl2
    cases za : asgT tg p e' with
    | none => rw [za] at hl2; cases hl2
    | some e2 =>
      rw [za] at hl2
      dsimp only at hl2
      refine t_tg za h3.w rp fun σ2 F2 w2 sub2 hlen hj => ?_
      have hw : wipe σ2 own = wipe σ own := by
        rw [← wipe_wipe (σ := σ)]
        exact wipe_eq hlen fun j hjo => hj j fun q => hjo (tgo j q)
      refine ⟨hw, ?_⟩
      have h4 := h3.mv w2 sub2 fun i fs hm => rE hw i fs acc hm
      have sty : ∀ (b : Bool), ((m && l) = true → b = true) → ∀ x' ∈ [x, EV.sl (.olst acc)], StayP b x' := fun b hb x' hx => by
        rcases List.mem_cons.mp hx with rfl | q
        · cases x' with
          | sl _ => trivial
          | pl i fs => exact .inl (st _ _ rfl)
        · rcases List.mem_cons.mp q with rfl | q
          · trivial
          · cases q
      refine h4.test (m := m) (sty m fun z => by simp only [Bool.and_eq_true] at z; exact z.1) ?_
      cases zc : c e2 with
      | exc _ _ => rw [zc] at hl2; cases hl2
      | bad => rw [zc] at hl2; cases hl2
      | ok b e3 =>
        rw [zc] at hl2
        intro I3 H3 F3 h5
        -- the turn's end: names wiped again
        have back : ∀ {σ9 : L2.St} {acc' : List PV} {e9 : RF.Env} {I9 H9 : Hp} {G9 F9 : List Addr} {kk : Bool}, wipe σ9 own = wipe σ own → Hld G kk I1 H1 (Fs ++ F1) σ9 [v, .ref D] [x, .sl (.olst acc')] e9 I9 H9 G9 F9 → ((m && l) = true → kk = true) → sameAt (wipeE e1 own) (wipeE e9 own) x = true →
            lcL tg own (fun e2 => sameAt (wipeE e1 own) e2 x) c el (ys.drop (i + 1)) acc' (wipeE e9 own) = .ok accE eE → Pv (i + 1) H9 := fun {σ9 acc' e9 I9 H9 G9 F9 kk} hw9 h9 hk sa9 hl9 => by
          obtain ⟨F0, w0, s0⟩ := h9.w.wipe own
          have h10 := h9.mv w0 s0 fun i fs hm => by
            have hi : i ∉ own := by
              rcases List.mem_cons.mp hm with q | q
              · exact rout i fs q
              · rcases List.mem_cons.mp q with q | q
                · cases q
                · cases q
            exact wipe_out hi
          rw [hw9] at h10
          exact ⟨acc', _, _, _, _, ⟨h10.stp.less hk, h10.w, h10.ev, h10.nd, h10.fr⟩, sa9, hl9, hlt⟩
        cases b with
        | false =>
          show Pv (i + 1) H3
          dsimp only at hl2
          by_cases ck : sameAt (wipeE e1 own) (wipeE e3 own) x = true
          · rw [if_pos ck] at hl2
            exact back hw h5 (fun z => by simp only [Bool.and_eq_true] at z ⊢; simp [z.1, z.2]) ck hl2
          · rw [if_neg ck] at hl2; cases hl2
        | true =>
          show tE G EXf l el σ2 H3 fun y H4 => ∃ acc, H4 D = some (.lst acc) ∧ acc.length < sizeLine ∧ Pv (i + 1) (upd H4 D (.lst (acc ++ [y])))
          dsimp only at hl2
          refine h5.eval (m := l) (sty l fun z => by simp only [Bool.and_eq_true] at z; exact z.2) ?_
          cases ze : el e3 with
          | exc _ _ => rw [ze] at hl2; cases hl2
          | bad => rw [ze] at hl2; cases hl2
          | ok y e4 =>
            rw [ze] at hl2
            cases y with
            | pl _ _ => cases hl2
            | sl s =>
              dsimp only at hl2
              by_cases ck : (live s && decide (acc.length < lim) && sameAt (wipeE e1 own) (wipeE e4 own) x) = true
              · rw [if_pos ck] at hl2
                simp only [Bool.and_eq_true] at ck
                intro yv I4 H4 Gs4 F4 h6
                obtain ⟨ws, I5, Gs5, hws, hwl, h7⟩ := h6.push hD ck.1.1 st
                exact ⟨ws, hws, by rw [hwl]; exact Nat.lt_of_lt_of_le (of_decide_eq_true ck.1.2) lim_le, back hw h7 (fun z => by simp only [Bool.and_eq_true] at z ⊢; simp [z.1, z.2]) ck.2 hl2⟩
              · rw [if_neg ck] at hl2; cases hl2
  · have hi2 : i = ys.length := by omega
    subst hi2
    refine .inl ⟨src.stop I' H' h2.w.ex hs, ?_⟩
    rw [List.drop_length, lcL] at hl2
    cases hl2
    obtain ⟨_, _, _, _, r1⟩ := h2.ev.hd
    obtain ⟨A2, B2, _, hd, r2⟩ := r1.hd
    obtain ⟨F9, en9, s9⟩ := EnvR.back h1.w.env (I := I') (H := H') h2.stp.ex pl h2.w.env
    obtain ⟨Gs8, h8⟩ := h2.tail
    obtain ⟨A8, B8, hA8, hd8, r8⟩ := h8.ev.hd
    cases r8
    have w9 : W G I' H' σ (backE e1 _ own) F9 := ⟨h2.w.ex, en9, h2.w.nd.sublist s9, fun b hb => h2.w.fr b (s9.subset hb)⟩
    have nd8 := h8.nd
    have st8 := h8.stp
    have fr8 := h8.fr
    rw [hA8, List.append_nil] at nd8 st8 fr8
    exact q (.ref D) I' H' F9 A8 ((h1.stp.trans st8).weak (fun z => z) fun b hb => by
      rcases List.mem_append.mp hb with q | q
      · exact List.mem_append_left _ q
      · exact List.mem_append_right _ (s9.subset q)) w9 (by
      cases hd8 with
      | sl hd8 => exact .sl hd8) (nd8.sublist (List.Sublist.append (List.Sublist.refl _) s9)) fr8
end
end RF
set_option maxHeartbeats 1000000
namespace RF
open PySem PySem.Spec PyProof.Rows L2 Evl
theorem PI.imp {X : Cx} {tg it : Expr} {w w' : TI} (h : PI X tg it w) (q : ∀ σ H R, w' σ H R → w σ H R) : PI X tg it w' := ⟨fun pins s σ H R I z => h.run pins s σ H R I (q σ H R z)⟩
theorem PI.or {X : Cx} {tg it : Expr} {w w' : TI} (h : PI X tg it w) (h' : PI X tg it w') : PI X tg it (fun σ H R => w σ H R ∨ w' σ H R) := ⟨fun pins s σ H R I z => z.elim (h.run pins s σ H R I) (h'.run pins s σ H R I)⟩
theorem PE.or {X : Cx} {e : Expr} {t t' : TE} (h : PE X e t) (h' : PE X e t') : PE X e (fun σ H Q => t σ H Q ∨ t' σ H Q) := ⟨fun pins s σ H Q I z => z.elim (h.run pins s σ H Q I) (h'.run pins s σ H Q I)⟩
def PostI (G : Gr) (EX : WX) (n : Bool) (r : R (EV × List PV)) (I H : Hp) (F : List Addr) (σ : L2.St) (Q : It → Hp → Prop) : Prop :=
  match r with
  | .ok xy e1 => ∀ v I1 H1 Gs F1 J S, Hld G n I H F σ [v] [xy.1] e1 I1 H1 Gs F1 → Src G J xy.2 S → (∀ {I' H' : Hp} {σ' : L2.St} {e' : RF.Env} {A F' : List Addr}, W G I' H' σ' e' F' → EvR G I' H' σ' v xy.1 A → valOf e' xy.1 = valOf e1 xy.1 → S I' H') → Q J H1
  | .exc x e' => ∀ cls d I' H' F', Stp false I H F I' H' F' → W G I' H' σ e' F' → XRep G I' H' cls d x → EX cls d σ H'
  | .bad => False
def tI (G : Gr) (EX : WX) (n : Bool) (f : RF.Env → R (EV × List PV)) : TI := fun σ H R => ∃ I e F, W G I H σ e F ∧ PostI G EX n (f e) I H F σ R
section
variable {G : Gr} {EX : WX} {n m l nc k : Bool} {I I1 I' H H1 H' : Hp} {F F1 F' Fs Fx Gs : List Addr} {σ σ' : L2.St} {e e1 e' : RF.Env} {v u : V} {x y : EV} {vs : List V} {xs : List EV} {s : Slot} {ps ys : List PV} {Q : VK} {own : List Nat} {a : Addr} {R' : It → Hp → Prop}
theorem Hld.walk {y : EV} {p : PV} (h : Hld G n I H F σ [v] [x] e1 I1 H1 Fs F1) (q : walkOf e1 x = some (y, p)) : valOf e1 y = some p ∧ (∃ Gs, Hld G n I H F σ [v] [y] e1 I1 H1 Gs F1) ∧ ∀ i fs, y = .pl i fs → fs = [] ∧ x = .pl i [] := by
  cases x with
  | sl s =>
    rw [walkOf] at q
    cases z : valOf e1 (.sl s) with
    | none => rw [z] at q; cases q
    | some p' =>
      rw [z] at q
      cases q
      exact ⟨z, ⟨Fs, h⟩, fun i fs q => nomatch q⟩
  | pl i fs =>
    cases fs with
    | nil =>
      rw [walkOf] at q
      cases z : valOf e1 (.pl i []) with
      | none => rw [z] at q; cases q
      | some p' =>
        rw [z] at q
        cases q
        exact ⟨z, ⟨Fs, h⟩, fun i fs q => by cases q; exact ⟨rfl, rfl⟩⟩
    | cons f fs =>
      rw [walkOf] at q
      cases z : getP e1 i (f :: fs) with
      | none => rw [z] at q; cases q
      | some s =>
        rw [z] at q
        cases s with
        | val p' =>
          cases q
          refine ⟨rfl, ⟨[], ?_⟩, fun i fs q => nomatch q⟩
          obtain ⟨_, _, _, hv, _⟩ := h.ev.hd
          cases hv with
          | pl hp =>
            obtain ⟨u, A, Ft, B, hp', hu, _⟩ := h.w.get z (by simp)
            have hn := h.nil
            refine ⟨hn.stp, hn.w, .cons (F1 := []) (.sl (.val ?_)) .nil, hn.nd, hn.fr⟩
            rw [hp.det hp']
            exact (val_nil hu).2
        | _ => cases q
theorem it_isq {fa : FE} (z : tI G EX n (fun e => (fa e).bind kIsq) σ H R') : iList G.K (tE G EX n fa) σ H R' ∨ iTup G.K (tE G EX n fa) σ H R' := by
  obtain ⟨I, e, F, w, q⟩ := z
  try dsimp only at q
  cases zf : fa e with
  | exc x e' =>
    rw [zf] at q
    refine .inl ((Hld.start w).eval (m := n) (fun x hx => nomatch hx) ?_)
    rw [zf]; exact q
  | bad =>
    rw [zf] at q
    exact q.elim
  | ok x e1 =>
    rw [zf] at q
    have q' : PostI G EX n (kIsq x e1) I H F σ R' := q
    unfold kIsq at q'
    cases zw : walkOf e1 x with
    | none => rw [zw] at q'; exact q'.elim
    | some yp =>
      obtain ⟨y, p⟩ := yp
      rw [zw] at q'
      dsimp only at q'
      cases zi : itemsP p with
      | none => rw [zi] at q'; exact q'.elim
      | some ys =>
        rw [zi] at q'
        have key : ∀ {v I1 H1 Gs F1 J}, Hld G n I H F σ [v] [x] e1 I1 H1 Gs F1 → Src G J ys (fun I H => BRep G I H v p) → R' J H1 := fun {v I1 H1 Gs F1 J} h1 src => by
          obtain ⟨k1, ⟨Gs2, k2⟩, _⟩ := h1.walk zw
          exact q' v I1 H1 Gs2 F1 J _ k2 src fun {I' H' σ' e' A F'} w' hv he => hv.b w' (he.trans k1)
        have getb : ∀ {v I1 H1 Gs F1}, Hld G n I H F σ [v] [x] e1 I1 H1 Gs F1 → BRep G I1 H1 v p := fun {v I1 H1 Gs F1} h1 => by
          obtain ⟨k1, ⟨Gs2, k2⟩, _⟩ := h1.walk zw
          obtain ⟨_, _, _, hv, _⟩ := k2.ev.hd
          exact hv.b k2.w k1
        by_cases ht : p = .tup ys
        · subst ht
          refine .inr ((Hld.start w).eval (m := n) (fun x hx => nomatch hx) ?_)
          rw [zf]
          intro v I1 H1 Gs F1 h1
          obtain ⟨a, ws, rfl, _, h, r⟩ := (getb h1).to_tup h1.w.ex
          exact ⟨a, rfl, ⟨ws, h⟩, key h1 src_tup⟩
        · have hp : p = .lst ys ∨ p = .xls ys := by
            cases p <;> first | cases zi | skip
            · exact absurd rfl ht
            · exact .inl rfl
            · exact .inr rfl
          refine .inl ((Hld.start w).eval (m := n) (fun x hx => nomatch hx) ?_)
          rw [zf]
          intro v I1 H1 Gs F1 h1
          have b := getb h1
          have hq : ∃ a ws, v = .ref a ∧ SqL G.K H1 a ws := by
            rcases hp with rfl | rfl
            · obtain ⟨a, ws, rfl, h, r⟩ := b.to_lst h1.w.ex
              exact ⟨a, ws, rfl, sq_of h⟩
            · obtain ⟨a, ws, rfl, h, r⟩ := b.to_xls h1.w.ex
              exact ⟨a, ws, rfl, h⟩
          obtain ⟨a, ws, rfl, h⟩ := hq
          exact ⟨a, rfl, ⟨ws, h⟩, key h1 (src_list hp)⟩
theorem Hld.none (h : Hld G n I H F σ vs xs e1 I1 H1 Fs F1) : Hld G n I H F σ [.non] [.sl (.val .non)] e1 I1 H1 [] F1 := by
  have h0 := h.nil
  exact ⟨h0.stp, h0.w, .cons (F1 := []) (.sl (.val .non)) .nil, h0.nd, h0.fr⟩
theorem BReps.two {p q : PV} (h : BReps G I H vs [p, q]) : ∃ v u, vs = [v, u] ∧ BRep G I H v p ∧ BRep G I H u q := by
  cases h with
  | cons h r =>
    obtain ⟨u, rfl, k⟩ := r.one
    exact ⟨_, u, rfl, h, k⟩
theorem BReps.length : ∀ {vs : List V} {ps : List PV}, BReps G I H vs ps → vs.length = ps.length
  | _, _, .nil => rfl
  | _, _, .cons _ r => congrArg Nat.succ r.length
theorem rng_cases (h : rngOf ps = some ys) : (∃ j, ps = [.int j] ∧ ys = rngV 0 j ∧ -big < j ∧ j < big) ∨ ∃ i j, ps = [.int i, .int j] ∧ ys = rngV i j ∧ (-big < i ∧ i < big ∧ -big < j ∧ j < big) := by
  unfold rngOf at h
  split at h
  · split at h
    · rename_i c
      cases h
      exact .inl ⟨_, rfl, rfl, c⟩
    · cases h
  · split at h
    · rename_i c
      cases h
      exact .inr ⟨_, _, rfl, rfl, c⟩
    · cases h
  · cases h
theorem it_rng {fas : FA} (z : tI G EX n (fun e => (fas e).bind kRng) σ H R') : tA G EX n fas σ H fun vs H1 => (∃ j : Int, vs = [.int j] ∧ -big < j ∧ j < big ∧ R' (Itr 0 j.toNat) H1) ∨ ∃ i j : Int, vs = [.int i, .int j] ∧ (-big < i ∧ i < big ∧ -big < j ∧ j < big) ∧ R' (Itr i (j - i).toNat) H1 := by
  obtain ⟨I, e, F, w, q⟩ := z
  try dsimp only at q
  refine (Hld.start w).evals (m := n) (fun x hx => nomatch hx) ?_
  cases zf : fas e with
  | exc x e' => rw [zf] at q; exact q
  | bad => rw [zf] at q; exact q
  | ok xs e1 =>
    rw [zf] at q
    have q' : PostI G EX n (kRng xs e1) I H F σ R' := q
    intro vs I1 H1 Gs F1 h1 _
    unfold kRng at q'
    cases zv : valsOf e1 xs with
    | none => rw [zv] at q'; exact q'.elim
    | some ps =>
      rw [zv] at q'
      dsimp only at q'
      cases zr : rngOf ps with
      | none => rw [zr] at q'; exact q'.elim
      | some ys =>
        rw [zr] at q'
        have b := h1.ev.b h1.w zv
        have hn := h1.none
        rcases rng_cases zr with ⟨j, rfl, rfl, c1, c2⟩ | ⟨i, j, rfl, rfl, c⟩
        · obtain ⟨v, rfl, bv⟩ := b.one
          have z := q' .non I1 H1 [] F1 (Itr 0 (j - 0).toNat) _ hn src_range (fun _ _ _ => trivial)
          rw [Int.sub_zero] at z
          exact .inl ⟨j, by rw [bv.to_int], c1, c2, z⟩
        · obtain ⟨v, u, rfl, bv, bu⟩ := b.two
          exact .inr ⟨i, j, by rw [bv.to_int, bu.to_int], c, q' .non I1 H1 [] F1 _ _ hn src_range (fun _ _ _ => trivial)⟩
theorem BReps.three {p q r : PV} (h : BReps G I H vs [p, q, r]) : ∃ v u t, vs = [v, u, t] ∧ BRep G I H v p ∧ BRep G I H u q ∧ BRep G I H t r := by
  cases h with
  | cons h r =>
    obtain ⟨u, t, rfl, k, l⟩ := r.two
    exact ⟨_, u, t, rfl, h, k, l⟩
theorem rng3_cases (h : rng3Of ps = some ys) : ∃ a b c : Int, ∃ n : Nat, ps = [.int a, .int b, .int c] ∧ ys = rng3V a c n ∧ RgC a b c n := by
  unfold rng3Of at h
  split at h
  · split at h
    · rename_i cc
      cases h
      exact ⟨_, _, _, _, rfl, rfl, cc.1, cc.2.1, cc.2.2.1, (Int.toNat_of_nonneg cc.2.2.2).symm⟩
    · cases h
  · cases h
theorem it_rng3 {fas : FA} (z : tI G EX n (fun e => (fas e).bind kRng3) σ H R') : tA G EX n fas σ H fun vs H1 => ∃ (i j c : Int) (m : Nat), vs = [.int i, .int j, .int c] ∧ RgC i j c m ∧ R' (Itc i c m) H1 := by
  obtain ⟨I, e, F, w, q⟩ := z
  try dsimp only at q
  refine (Hld.start w).evals (m := n) (fun x hx => nomatch hx) ?_
  cases zf : fas e with
  | exc x e' => rw [zf] at q; exact q
  | bad => rw [zf] at q; exact q
  | ok xs e1 =>
    rw [zf] at q
    have q' : PostI G EX n (kRng3 xs e1) I H F σ R' := q
    intro vs I1 H1 Gs F1 h1 _
    unfold kRng3 at q'
    cases zv : valsOf e1 xs with
    | none => rw [zv] at q'; exact q'.elim
    | some ps =>
      rw [zv] at q'
      dsimp only at q'
      cases zr : rng3Of ps with
      | none => rw [zr] at q'; exact q'.elim
      | some ys =>
        rw [zr] at q'
        have b := h1.ev.b h1.w zv
        have hn := h1.none
        obtain ⟨i, j, c, m, rfl, rfl, hc⟩ := rng3_cases zr
        obtain ⟨v, u, t, rfl, bv, bu, bt⟩ := b.three
        exact ⟨i, j, c, m, by rw [bv.to_int, bu.to_int, bt.to_int], hc, q' .non I1 H1 [] F1 _ _ hn src_rangeC (fun _ _ _ => trivial)⟩
theorem same_val (hr : rootOut own x = true) (h : sameAt (wipeE e1 own) e' x = true) : valOf e' x = valOf e1 x := by
  have wo : ∀ {vs : List Nat} {i : Nat}, i ∉ vs → (wipeE e1 vs)[i]? = e1[i]? := fun {vs} => by
    induction vs with
    | nil => intro i _; rfl
    | cons v vs ih =>
      intro i h
      rw [List.mem_cons, not_or] at h
      rw [wipeE, List.getElem?_set_ne (Ne.symm h.1)]
      exact ih h.2
  cases x with
  | sl s => rfl
  | pl i fs =>
    have hi : i ∉ own := by simpa [rootOut] using hr
    have e2 : getP e' i fs = getP (wipeE e1 own) i fs := of_decide_eq_true h
    rw [valOf, valOf, e2]
    unfold getP
    rw [wo hi]
theorem t_lc {fi : RF.Env → R (EV × List PV)} {tg : T} {c : FT} {el : FE} (st : ∀ e xy e', fi e = .ok xy e' → ∀ i fs, xy.1 = .pl i fs → fs = []) (tgo : ∀ j ∈ tgIx tg, j ∈ own)
    (z : tE G EX (n && (m && l)) (fun e => (fi e).bind (kLc own tg c el)) σ H Q) : tLc (tI G EX n fi) (tgR G.K tg) (tT G EXf m c) (tE G EXf l el) own σ H Q := by
  obtain ⟨I, e, F, w, q⟩ := z
  try dsimp only at q
  refine ⟨I, e, F, w, ?_⟩
  cases zf : fi e with
  | exc x e' => rw [zf] at q; exact q
  | bad => rw [zf] at q; exact q
  | ok xy e1 =>
    rw [zf] at q
    have q' : PostE G EX (n && (m && l)) (kLc own tg c el xy e1) I H F σ Q := q
    intro v I1 H1 Gs F1 J S h1 src hS
    unfold kLc at q'
    by_cases cc : (own.all (plainAt e1) && rootOut own xy.1) = true
    · rw [if_pos cc] at q'
      rw [Bool.and_eq_true] at cc
      cases zl : lcL tg own (fun e2 => sameAt (wipeE e1 own) e2 xy.1) c el xy.2 [] (wipeE e1 own) with
      | exc _ _ => rw [zl] at q'; exact q'.elim
      | bad => rw [zl] at q'; exact q'.elim
      | ok acc eE =>
        rw [zl] at q'
        refine lc_in src h1 ?_ cc.2 tgo (fun {k I0 H0 F0 I' H' e' Gs F'} h sa => ?_) cc.1 zl q'
        · exact fun i fs hx => st _ _ _ zf i fs hx
        · obtain ⟨_, _, _, hv, _⟩ := h.ev.hd
          exact hS h.w hv (same_val cc.2 sa)
    · rw [if_neg cc] at q'; exact q'.elim
end
end RF
set_option maxHeartbeats 1000000
namespace RF
open PySem PySem.Spec PyProof.Rows L2 Evl
def tDcX (K : PySem.W.Frag) (w : World) (wi : TI) (g : TG) (tt : TT) (tk tv : TE) (vs : List Nat) : TE := fun σ H Q => wi σ H fun J H1 => ∀ D, H1 D = none → ∃ W : Nat → Nat → Hp → Prop, (∃ m, W 0 m (upd H1 D (.dK []))) ∧ ∀ i m H, W i m H →
  (J.stop i H ∧ Q (.ref D) H) ∨ (J.go i H ∧ ∃ Nx : Hp → Prop, (∀ H', Nx H' → ∃ m', m' < m ∧ W (i + 1) m' H') ∧ ∀ x H', J.yld i H x H' → g x (wipe σ vs) H' fun σ2 H2 => wipe σ2 vs = wipe σ vs ∧ tt σ2 H2 fun b H3 =>
    if b = true then tk σ2 H3 fun y H4 => tv σ2 H4 fun z H5 => DStore K w H5 D y z Nx else Nx H3)
section
variable {X : Cx}
theorem d_dictSetX (hu : X.A.units + 70 < cLine) {pins : List (Addr × Obj)} {σ : L2.St} {H : Hp} {s : Shared} {E : Value → Shared → Prop} {D : Addr} {y v : V} {u r : Value} {Nx : Hp → Prop} {Q : Unit → Shared → Prop} (I : Inv X pins σ H s)
    (hd : DStore X.K X.w H D y v Nx) (ry : RelV y u) (rv : RelV v r) (h : ∀ s' H', Inv X pins σ H' s' → Nx H' → Q () s') : wpAny (model X.prog X.w) X.A (dictSet D u r) Q E s := by
  have fin : ∀ {h' : Heap} {t : Nat} {xs : List (NKey × Addr × Value)}, L2.Mut (H D) → (D == sysModules) = false → xs.length ≤ sizeLine → Heap.SameBut D s.heap h' → Heap.DictOfH (nestKind X.prog X.w) h' D xs → Nx (upd H D (dN X.w D xs)) → Q () { s with heap := h', toks := t } := fun {h' t xs} hm h1 h2 h3 h4 q => by
    have h5 := h4
    obtain ⟨ob, _, _, h6, _⟩ := h5
    exact h _ _ (d_write (t' := t) I hm h3 ⟨ob, h6⟩ (dN_of h1 h2 h4 _)) q
  rcases hd with ⟨kvs, k, h1, rfl, hl, q⟩ | ⟨b, d, rfl, h1, h2, q⟩ | ⟨xs, b, d, rfl, h1, h2, h3, hl, q⟩
  · exact d_dictSet I h1 hl ry rv fun s' I' => h s' _ I' q
  · have ry' : u = .ref b := ry
    subst ry'
    obtain ⟨e1, e2⟩ := dict_empty (I.hok _ _ h1)
    refine wpAny_dictSet_heap (knd := nestKind X.prog X.w) (by show X.A.units + 9 < cLine; omega) (key_is I h2) e2 (fun h' k1 k2 => ?_) (Nat.zero_le _)
    exact fin (xs := [(d, b, r)]) (by rw [h1]; trivial) e1 (by rw [sizeLine_eq]; show 1 ≤ _; decide) k2 k1 (q r rv)
  · have ry' : u = .ref b := ry
    subst ry'
    obtain ⟨e1, e0, e2⟩ := dN_to (I.hok _ _ h1) (keys_is I h3)
    refine wpAny_dictSet_heap (knd := nestKind X.prog X.w) (by show X.A.units + 9 < cLine; omega) (key_is I h2) e2 (fun h' k1 k2 => ?_) e0
    refine fin (by rw [h1]; trivial) e1 ?_ k2 k1 (q r rv)
    unfold storedH
    split
    · rw [List.length_map]; exact e0
    · rw [List.length_append]; exact hl
theorem dc_coreX (hu : X.A.units + 70 < cLine) {pins : List (Addr × Obj)} {s : Shared} {σ : L2.St} {H : Hp} {Q : VK} {kx vx tg iter : Expr} {ifs : List Expr} {scope : Scope} {own : List (Str × Nat)} {pos pos' : Pos} {wi : TI} {g : TG} {tt : TT} {tk tv : TE} {use : Option (Value → Sem Unit)} {Qf : Value → Shared → Prop}
    (hc : X.calm = true) (hN : X.N.Nodup) (I : Inv X pins σ H s) (hi : PI X tg iter wi) (ok : BlkOk X.N X.env.scope scope own)
    (hg : ∀ (s : Shared) (H : Hp) (C : Addr) (cl : List (Str × Addr)) (fp : List Addr), PG (X.blk s H scope (compEnvC scope cl C X.env) fp) tg g) (ht : ∀ (s : Shared) (H : Hp) (C : Addr) (cl : List (Str × Addr)) (fp : List Addr), PTs (X.blk s H scope (compEnvC scope cl C X.env) fp) ifs tt)
    (hk : ∀ (s : Shared) (H : Hp) (C : Addr) (cl : List (Str × Addr)) (fp : List Addr), PE (X.blk s H scope (compEnvC scope cl C X.env) fp) kx tk)
    (he : ∀ (s : Shared) (H : Hp) (C : Addr) (cl : List (Str × Addr)) (fp : List Addr), PE (X.blk s H scope (compEnvC scope cl C X.env) fp) vx tv) (hs : ∀ x, foldedSetIterable iter X.env x = pure x)
    (h : tDcX X.K X.w wi g tt tk tv (own.map (·.2)) σ H Q)
    (hRR : ∀ D C s' m H', Inv X pins σ H' s' → Q (.ref D) H' → s'.heap.Ns C m → FpOk X pins H' C → compPost (model X.prog X.w) X.A X.xe use Qf (.ref D) C (.ok .next) s') :
    wpAny (model X.prog X.w) X.A (comprehension (.DictComp kx vx [⟨tg, iter, ifs, 0⟩] scope pos) scope X.env pos' newDict false (eval iter X.env) use) Qf X.xe s := by
  have hfree : ∀ y ∈ scope.names, y.2 = .free → ∃ c, X.env.cells.lookup y.1 = some c := fun y hy e => by
    rcases ok.free y hy e with k | k
    · exact I.ok.has _ (.inl k)
    · exact I.ok.has _ (.inr k)
  refine wpAny_comprehension_free (use := use) rfl hs (closure_ok hfree) ok.kind (fun y hy e => by rw [ok.uniq y hy, e])
    (thn (hi.run pins s σ H _ I h) fun xv s1 hx => thn hx fun itv s2 h2 => ?_)
  obtain ⟨it, fp, tn, J, H2, e, I2, T, st2, f2, q⟩ := h2
  subst e
  refine wpAny_newObj_type (newEnv_comp ?_)
  generalize hD : s2.heap.objs.size = D
  have hDn : H2 D = none := I2.hok.fresh (Nat.le_of_eq hD)
  obtain ⟨W, ⟨m0, w0⟩, turn⟩ := q D hDn
  -- the new list
  generalize hs3 : ({ s2 with heap := s2.heap.push { cls := .type "dict", data := .dict #[] } } : Shared) = s3
  have I3 : Inv X pins σ (upd H2 D (.dK [])) s3 := by
    rw [← hs3]
    refine I2.laid (t' := s2.toks) (fun b o e => Heap.get?_push_of_some _ e) (Nat.le_of_eq hD) ?_
    rw [← hD]
    exact dk_empty s2.heap I2.big
  have h3 : s3.heap = s2.heap.push { cls := .type "dict", data := .dict #[] } := by rw [← hs3]
  have sz : ∀ b ∈ fp, b < s2.heap.objs.size := fun b hb => by
    obtain ⟨o, e, _⟩ := T.obj _ _ st2 b hb
    exact Heap.lt_size e
  have f3 : ∀ b ∈ fp, FpOk X pins (upd H2 D (.dK [])) b ∧ b < s3.heap.objs.size := fun b hb => by
    have hlt := sz b hb
    refine ⟨⟨?_, (f2 b hb).2⟩, by rw [h3, Heap.size_push]; exact Nat.lt_succ_of_lt hlt⟩
    rw [upd_ne (by rw [← hD]; exact Nat.ne_of_lt hlt)]
    exact (f2 b hb).1
  have st3 : tn 0 s3.heap := T.keep _ _ _ st2 fun b _ o e => by rw [h3]; exact Heap.get?_push_of_some _ e
  have I4 := block_start I3 ok hN f3
  have pg := hg s3 (upd H2 D (.dK [])) s3.heap.objs.size (cellsFrom (s3.heap.objs.size + 1) scope.names (cloFrom X.env.cells scope.names [])) fp
  have pt := ht s3 (upd H2 D (.dK [])) s3.heap.objs.size (cellsFrom (s3.heap.objs.size + 1) scope.names (cloFrom X.env.cells scope.names [])) fp
  have pk := hk s3 (upd H2 D (.dK [])) s3.heap.objs.size (cellsFrom (s3.heap.objs.size + 1) scope.names (cloFrom X.env.cells scope.names [])) fp
  have pe := he s3 (upd H2 D (.dK [])) s3.heap.objs.size (cellsFrom (s3.heap.objs.size + 1) scope.names (cloFrom X.env.cells scope.names [])) fp
  show codeAny _ _ (.compStart (.DictComp kx vx [⟨tg, iter, ifs, 0⟩] scope pos) 0 (.ref it) (.ref D) (compEnvC scope (cellsFrom (s3.heap.objs.size + 1) scope.names (cloFrom X.env.cells scope.names [])) s3.heap.objs.size X.env)) (compPost (model X.prog X.w) X.A X.xe use Qf (.ref D) s3.heap.objs.size) { s3 with heap := pushCells (s3.heap.push { cls := .type "dict", data := .dict #[] }) scope.names }
  have nfp : ∀ b ∈ fp, (upd H2 D (.dK [])) b = none := fun b hb => (f3 b hb).1.1
  generalize hce : compEnvC scope (cellsFrom (s3.heap.objs.size + 1) scope.names (cloFrom X.env.cells scope.names [])) s3.heap.objs.size X.env = ce at I4 pg pt pk pe ⊢
  have cL : ce.locals = s3.heap.objs.size := by subst hce; rfl
  generalize hH3 : upd H2 D (.dK []) = H3 at I3 I4 pg pt pk pe w0 nfp f3
  generalize hs4 : ({ s3 with heap := pushCells (s3.heap.push { cls := .type "dict", data := .dict #[] }) scope.names } : Shared) = s4 at I4 ⊢
  have st4 : tn 0 s4.heap := T.keep _ _ _ st3 fun b _ o e => by rw [← hs4]; exact pushCells_keeps _ _ _ _ (Heap.get?_push_of_some _ e)
  have stat : ∀ {σ' : L2.St} {H' : Hp} {s' : Shared}, Inv (X.blk s3 H3 scope ce fp) [] σ' H' s' → (∀ b ∈ fp, H' b = none) → ∀ b ∈ fp, FpOk (X.blk s3 H3 scope ce fp) [] H' b := fun {σ' H' s'} I' hn b hb =>
    ⟨hn b hb, (I'.ok.exf b hb).1, I'.ok.exfs b hb, .inl hb, fun x c e => (I'.ok.exf b hb).2 x c e, fun p hp => absurd (show p ∈ ([] : List (Addr × Obj)) ++ [] from hp) (by simp)⟩
  have loop : codeAny (model X.prog X.w) X.A (.compLoop (.DictComp kx vx [⟨tg, iter, ifs, 0⟩] scope pos) 0 (.ref it) (.ref D) ce) (compPost (model X.prog X.w) X.A X.xe use Qf (.ref D) s3.heap.objs.size) s4 := by
    refine compLoop_anyD (fun n s' => ∃ i H', Inv (X.blk s3 H3 scope ce fp) [] (wipe σ (own.map (·.2))) H' s' ∧ tn i s'.heap ∧ (∀ b ∈ fp, H' b = none) ∧ W i n H') ?_ m0 ⟨0, H3, I4, st4, nfp, w0⟩
    rintro n s5 ⟨i, H5, I5, st5, n5, w5⟩
    rcases turn i n H5 w5 with ⟨stop, qq⟩ | ⟨go, Nx, hNx, step⟩
    · have td := T.done (X.blk s3 H3 scope ce fp) rfl rfl rfl hc i [] s5 _ H5 (fun _ _ => False) I5 (stat I5 n5) st5 stop
      refine thnF td fun r s6 ⟨hr, I6⟩ => ?_
      subst hr
      -- back in the def's context
      have I7 : Inv X pins σ H5 s6 := I3.call' (ch := fp) I6.os I6.base I6.hok I6.bare fun b hb => ⟨(f3 b hb).1.2.2.2.1, (f3 b hb).1.2.1, (f3 b hb).1.2.2.2.2.1, (f3 b hb).1.2.2.2.2.2⟩
      have nC : H5 s3.heap.objs.size = none := by
        have z : H5 ce.locals = none := I6.free
        rw [cL] at z
        exact z
      obtain ⟨m, hn, _⟩ := I6.loc
      have hn : s6.heap.Ns ce.locals m := hn
      rw [cL] at hn
      exact hRR D s3.heap.objs.size s6 m H5 I7 qq hn (I3.fpOk (Nat.le_refl _) nC)
    · have ti := T.item (X.blk s3 H3 scope ce fp) rfl rfl rfl hc i [] s5 _ H5 (fun _ _ => False) I5 (stat I5 n5) st5 go
      refine thnF ti fun r s6 ⟨u, hr, h6⟩ => ?_
      subst hr
      refine thnF h6 fun _ s7 ⟨x, H7, I7, r7, y7, st7, n7⟩ => ?_
      have I7' := I7.pinned (stat I7 n7) (T.obj _ _ st7)
      refine thnF (pg.run _ s7 _ H7 x u _ I7' r7 (step x H7 y7)) fun _ s8 ⟨σ8, H8, I8, hw8, q8⟩ => ?_
      refine thnF (pt.run _ s8 σ8 H8 _ I8 q8) fun b s9 ⟨H9, I9, q9⟩ => ?_
      -- the turn's end
      have fin : ∀ {s' : Shared} {H' : Hp}, Inv (X.blk s3 H3 scope ce fp) ([] ++ pinsAt fp s7.heap) σ8 H' s' → Nx H' → ∃ m, m < n ∧ ∃ i H', Inv (X.blk s3 H3 scope ce fp) [] (wipe σ (own.map (·.2))) H' s' ∧ tn i s'.heap ∧ (∀ b ∈ fp, H' b = none) ∧ W i m H' := fun {s' H'} I' nx => by
        obtain ⟨m', hm, w'⟩ := hNx H' nx
        have pin' : ∀ b ∈ fp, ∀ o, s7.heap.get? b = some o → s'.heap.get? b = some o ∧ H' b = none := fun b hb o e =>
          let z := I'.pin (b, o) (List.mem_append_right _ (List.mem_append_right _ (mem_pinsAt hb e)))
          ⟨z.1, z.2.1⟩
        have hl : (wipe σ (own.map (·.2))).length = σ8.length := by rw [← hw8, wipe_length]
        refine ⟨m', hm, i + 1, H', (I'.unpinned (pins := [])).weak hl (fun j v e => ?_), T.keep _ _ _ st7 fun b hb o e => (pin' b hb o e).1, fun b hb => ?_, w'⟩
        · rw [← hw8] at e
          exact (wipe_some e).1
        · obtain ⟨o, e, _⟩ := T.obj _ _ st7 b hb
          exact (pin' b hb o e).2
      cases b with
      | false =>
        simp only [Bool.false_eq_true, if_false] at q9 ⊢
        exact fin I9 q9
      | true =>
        simp only [if_true] at q9 ⊢
        refine thnF (pk.run _ s9 σ8 H9 _ I9 q9) fun z s10 ⟨yk, H10, I10, r10, q10⟩ => ?_
        refine thnF (pe.run _ s10 σ8 H10 _ I10 q10) fun z2 s11 ⟨yv, H11, I11, r11, hst⟩ => ?_
        exact d_dictSetX (X := X.blk s3 H3 scope ce fp) hu I11 hst r10 r11 fun s12 H12 I12 nx => fin I12 nx
  exact codeAny_compStart_dict loop (T.self X.A 0 _ _ _ st4 loop)
theorem pe_dcX (hu : X.A.units + 70 < cLine) {kx vx tg iter : Expr} {ifs : List Expr} {scope : Scope} {own : List (Str × Nat)} {pos : Pos} {wi : TI} {g : TG} {tt : TT} {tk tv : TE} (hc : X.calm = true) (hN : X.N.Nodup) (hi : PI X tg iter wi) (ok : BlkOk X.N X.env.scope scope own)
    (hg : ∀ (s : Shared) (H : Hp) (C : Addr) (cl : List (Str × Addr)) (fp : List Addr), PG (X.blk s H scope (compEnvC scope cl C X.env) fp) tg g) (ht : ∀ (s : Shared) (H : Hp) (C : Addr) (cl : List (Str × Addr)) (fp : List Addr), PTs (X.blk s H scope (compEnvC scope cl C X.env) fp) ifs tt)
    (hk : ∀ (s : Shared) (H : Hp) (C : Addr) (cl : List (Str × Addr)) (fp : List Addr), PE (X.blk s H scope (compEnvC scope cl C X.env) fp) kx tk)
    (he : ∀ (s : Shared) (H : Hp) (C : Addr) (cl : List (Str × Addr)) (fp : List Addr), PE (X.blk s H scope (compEnvC scope cl C X.env) fp) vx tv) (hs : ∀ x, foldedSetIterable iter X.env x = pure x := by intro _; rfl) :
    PE X (.DictComp kx vx [⟨tg, iter, ifs, 0⟩] scope pos) (tDcX X.K X.w wi g tt tk tv (own.map (·.2))) := by
  refine ⟨fun pins s σ H Q I h => ?_⟩
  rw [arm_eval_DictComp]
  refine dc_coreX hu hc hN I hi ok hg ht hk he hs h fun D C s' m H' I' q hn f => ⟨m, hn, fun h'' sb => ?_⟩
  obtain ⟨f0, f1, f2, f3, f4, f5⟩ := f
  exact ⟨.ref D, H', I'.turned (t' := s'.toks) (fun b o hb e => (sb.2 b hb).trans e) f0 f1 f3 f4 f5, rfl, q⟩
theorem ps_setDcX (hu : X.A.units + 70 < cLine) {i : Nat} {y : Str} {py : Pos} {kx vx tg iter : Expr} {ifs : List Expr} {scope : Scope} {own : List (Str × Nat)} {pos spos : Pos} {wi : TI} {g : TG} {tt : TT} {tk tv : TE} (hc : X.calm = true) (hN : X.N.Nodup) (hy : X.N[i]? = some y) (hyl : X.env.scope.names.lookup y = some .local)
    (hsw : swapsWith (.DictComp kx vx [⟨tg, iter, ifs, 0⟩] scope pos) (some (.Name y py)) spos.line X.env = pure true) (hi : PI X tg iter wi) (ok : BlkOk X.N X.env.scope scope own)
    (hg : ∀ (s : Shared) (H : Hp) (C : Addr) (cl : List (Str × Addr)) (fp : List Addr), PG (X.blk s H scope (compEnvC scope cl C X.env) fp) tg g) (ht : ∀ (s : Shared) (H : Hp) (C : Addr) (cl : List (Str × Addr)) (fp : List Addr), PTs (X.blk s H scope (compEnvC scope cl C X.env) fp) ifs tt)
    (hk : ∀ (s : Shared) (H : Hp) (C : Addr) (cl : List (Str × Addr)) (fp : List Addr), PE (X.blk s H scope (compEnvC scope cl C X.env) fp) kx tk)
    (he : ∀ (s : Shared) (H : Hp) (C : Addr) (cl : List (Str × Addr)) (fp : List Addr), PE (X.blk s H scope (compEnvC scope cl C X.env) fp) vx tv) (hs : ∀ x, foldedSetIterable iter X.env x = pure x := by intro _; rfl) :
    PS X (.Assign [.Name y py] (.DictComp kx vx [⟨tg, iter, ifs, 0⟩] scope pos) spos) (tAsg (tDcX X.K X.w wi g tt tk tv (own.map (·.2))) (gName i)) := by
  refine ⟨fun pins s σ H D I h => ?_⟩
  rw [exec_Assign_Name_used _ _ _ _ hsw]
  refine wpAny_bind (wpAny_standAt (wpAny_bind ?_))
  show wpAny _ X.A (do let _ ← comprehension (.DictComp kx vx [⟨tg, iter, ifs, 0⟩] scope pos) scope X.env (firstIterPos [⟨tg, iter, ifs, 0⟩] pos) newDict false (eval iter X.env) (some (assign (.Name y py) X.env))) _ _ s
  have h : tDcX X.K X.w wi g tt tk tv (own.map (·.2)) σ H (fun x H1 => gName i x σ H1 D.nx) := h
  refine wpAny_bind (thn (dc_coreX hu (Qf := fun _ s' => SP X pins D .next s') hc hN I hi ok hg ht hk he hs h fun L C s' m H' I' q hn f => ?_) fun _ s' hq => wpAny_pure (wpAny_pure hq))
  show wpAny _ _ (assign (.Name y py) X.env (.ref L)) _ _ _
  refine wpAny_assign_Name (store_ok2 (v := V.ref L) I' hN hy (.inl hyl) rfl (fun s2 I2 ⟨a, sb, ha⟩ => ?_) (.inr hyl))
  obtain ⟨f0, f1, f2, f3, f4, f5⟩ := f
  have haC : C ≠ a := by
    rcases ha with z | z
    · rw [z]; exact f1
    · exact fun e => f4 y a z e.symm
  refine ⟨m, hn.sameBut sb haC, fun h3 sb3 => ?_⟩
  exact ⟨_, H', I2.turned (t' := s2.toks) (fun b o hb e => (sb3.2 b hb).trans e) f0 f1 f3 f4 f5, q⟩
theorem sw_trueD {kx vx : Expr} {gs : List Comprehension} {scope : Scope} {pos py : Pos} {y : Str} {l : Nat} {env : PySem.Env} (hk : env.scope.kind = .function) (hy : env.scope.names.lookup y = some .local) (hl : (py.line == pos.line) = true)
    (ha : (scope.names.any fun (n, k) => n == y && (k == .local || k == .cell)) = false) : swapsWith (.DictComp kx vx gs scope pos) (some (.Name y py)) l env = pure true := by
  have ky : env.kindOf y = some .local := hy
  have hb : env.blockKind = .function := by unfold Env.blockKind; rw [hk]; rfl
  unfold swapsWith
  simp only [hb, ky, ha, Expr.pos, hl]
  rfl
end
section
variable {G : Gr} {EX : WX} {n m l nc k : Bool} {I I1 I' H H1 H' : Hp} {F F1 F' Fs Fx Gs : List Addr} {σ σ' : L2.St} {e e1 e' : RF.Env} {v u : V} {x y : EV} {vs : List V} {xs : List EV} {s : Slot} {ps ys : List PV} {Q : VK} {own : List Nat} {a : Addr}
theorem Hld.freshD (h : Hld G n I H F σ vs xs e1 I1 H1 Fs F1) {D : Addr} (hD : H1 D = Option.none) : Hld G n I H F σ (vs ++ [.ref D]) (xs ++ [.sl (.odic [])]) e1 I1 (upd H1 D (.dK [])) (Fs ++ [D]) F1 := by
  have keep : ∀ b ∈ F1, upd H1 D (.dK []) b = H1 b := fun b hb => by
    obtain ⟨o, ho⟩ := h.w.env.there b hb
    exact upd_ne (ne_of_none ho hD)
  have w := h.w.step (I' := I1) (H' := upd H1 D (.dK [])) (Ex.refl _) (h.w.ex.trans (Ex.new hD)) keep fun a ha => h.w.fr a ha
  have ID : I1 D = Option.none := in_none h.w.ex hD
  have nD : D ∉ F1 := fun hb => by
    obtain ⟨o, ho⟩ := h.w.env.there D hb
    rw [hD] at ho; cases ho
  have z := h.next (m := true) (x := .sl (.odic [])) (v := .ref D) (fun x _ => by cases x with | sl _ => trivial | pl _ fs => exact .inr rfl) (Gs := [D]) (F' := F1) ⟨Ex.refl _, fun b o hb _ => ⟨by rw [upd_ne (ne_of_none hb hD)]; exact hb, rfl⟩, fun b o hb => ⟨o, by rw [upd_ne (ne_of_none hb hD)]; exact hb⟩, fun b hb => by
      rcases List.mem_append.mp hb with q | q
      · rw [List.mem_singleton.mp q]; exact .inr hD
      · exact .inl q, fun _ => Ex.new hD⟩ w (.sl (.odic upd_same .nil)) (List.nodup_append.mpr ⟨by simp, h.w.nd, fun b hb c hc q => nD (by rw [← List.mem_singleton.mp hb, q]; exact hc)⟩) (fun b hb => by rw [List.mem_singleton.mp hb]; exact ID)
  rwa [Bool.and_true] at z
theorem repK_ins {kvs : List (PV × PV)} {d : HO} (r : RepK G I a d kvs) : ∀ c dx fs, d ≠ .ins c dx fs := by
  intro c dx fs e
  subst e
  cases r
theorem Hld.dpush {D : Addr} {acc : List (PV × PV)} {kv : V} {kp : PV} (h : Hld G n I H F σ [v, .ref D, kv, u] [x, .sl (.odic acc), .sl (.val kp), .sl s] e1 I1 H1 Fs F1) (hD : H D = Option.none) (lv : live s = true) (hp : ∀ i fs, x = .pl i fs → fs = []) :
    ∃ d I2, Ex I2 H1 ∧ H1 D = some d ∧ RepK G I2 D d acc ∧ Rep G I2 kv kp ∧ Rep G I2 u (frz s) ∧ ∀ d' acc', RepK G I2 D d' acc' → ∃ Gs, Hld G n I H F σ [v, .ref D] [x, .sl (.odic acc')] e1 I2 (upd H1 D d') Gs F1 := by
  obtain ⟨A1, B1, rfl, hv, r1⟩ := h.ev.hd
  obtain ⟨A2, B2, rfl, hd, r2⟩ := r1.hd
  obtain ⟨A4, B4, rfl, hk, r4⟩ := r2.hd
  obtain ⟨A3, B3, rfl, hu, r3⟩ := r4.hd
  cases r3
  have hk2 : A4 = [] ∧ Rep G I1 kv kp := by
    cases hk with
    | sl hk => cases hk with | val hk => exact ⟨rfl, hk⟩
  obtain ⟨rfl, hk3⟩ := hk2
  rw [List.nil_append] at h
  cases hd with
  | sl hd =>
  cases hd with
  | @odic _ d _ hh rr =>
  cases hu with
  | sl hu =>
  have nd := h.nd
  have m1 : ∀ b ∈ A1, b ∈ A1 ++ ([D] ++ (A3 ++ [])) := fun b hb => List.mem_append_left _ hb
  have mD : D ∈ A1 ++ ([D] ++ (A3 ++ [])) := by simp
  have m3 : ∀ b ∈ A3, b ∈ A1 ++ ([D] ++ (A3 ++ [])) := fun b hb => by simp [hb]
  have nd1 := (List.nodup_append.mp nd).1
  have d1 : D ∉ A1 := fun q => (List.nodup_append.mp nd1).2.2 D q D (by simp) rfl
  have d3 : D ∉ A3 := fun q => (List.nodup_append.mp (List.nodup_append.mp nd1).2.1).2.2 D (by simp) D (by simp [q]) rfl
  have dF : D ∉ F1 := fun q => (List.nodup_append.mp nd).2.2 D mD D q rfl
  have x31 : ∀ b ∈ A1, b ∉ A3 := fun b hb q => (List.nodup_append.mp nd1).2.2 b hb b (by simp [q]) rfl
  have x3F : ∀ b ∈ F1, b ∉ A3 := fun b hb q => (List.nodup_append.mp nd).2.2 b (m3 b q) b hb rfl
  have ID : I1 D = Option.none := h.fr D mD
  have ex : Ex I1 (mergeI I1 H1 A3) := merge_ex fun b hb => h.fr b (m3 b hb)
  have own : ∀ b ∈ (A1 ++ ([D] ++ (A3 ++ []))) ++ F1, b ∈ F ∨ H b = Option.none := h.stp.own
  refine ⟨d, mergeI I1 H1 A3, merge_in h.w.ex, hh, rr.mono ex, hk3.mono ex, hu.frozen ex lv fun b hb => merge_at hb, fun d' acc' r' => ?_⟩
  have w : W G (mergeI I1 H1 A3) (upd H1 D d') σ e1 F1 := ⟨fun b o hb => by
      have ne : b ≠ D := fun q => by
        subst q
        rw [merge_out d3, ID] at hb; cases hb
      rw [upd_ne ne]
      exact merge_in h.w.ex b o hb, h.w.env.step ex fun b hb => upd_ne fun q => dF (q ▸ hb), h.w.nd, fun b hb => (merge_out (x3F b hb)).trans (h.w.fr b hb)⟩
  refine ⟨A1 ++ ([D] ++ []), ⟨h.stp.ex.trans ex, fun b o hb hf => ?_, fun b o hb => ?_, fun b hb => own b ?_, fun q => ?_⟩, w, .cons ?_ (.cons (.sl (.odic upd_same r')) .nil), ?_, fun b hb => ?_⟩
  · obtain ⟨k1, k2⟩ := h.stp.old b o hb hf
    have ne : b ≠ D := fun q => by rw [q, hD] at hb; cases hb
    have n3 : b ∉ A3 := fun q => (own b (List.mem_append_left _ (m3 b q))).elim hf fun z => by rw [hb] at z; cases z
    exact ⟨by rw [upd_ne ne]; exact k1, (merge_out n3).trans k2⟩
  · obtain ⟨o', ho'⟩ := h.stp.dom b o hb
    have ne : b ≠ D := fun q => by rw [q, hD] at hb; cases hb
    exact ⟨o', by rw [upd_ne ne]; exact ho'⟩
  · simp only [List.mem_append, List.append_nil, List.mem_cons, List.not_mem_nil, or_false] at hb ⊢
    rcases hb with (q | q) | q
    · exact .inl (.inl q)
    · exact .inl (.inr (.inl q))
    · exact .inr q
  · intro b o hb
    have ne : b ≠ D := fun z => by rw [z, hD] at hb; cases hb
    rw [upd_ne ne]
    exact h.stp.keep q b o hb
  · cases hv with
    | sl hv => exact .sl (hv.step ex fun b hb => upd_ne fun q => d1 (q ▸ hb))
    | pl hv =>
      have e0 := hp _ _ rfl
      subst e0
      obtain ⟨v0, h1, h2⟩ := hv
      cases h2
      exact .pl ⟨_, h1, .nil⟩
  · have := nd
    simp only [List.append_nil] at this ⊢
    refine this.sublist ?_
    exact List.Sublist.append (List.Sublist.append (List.Sublist.refl _) (List.sublist_append_left _ _)) (List.Sublist.refl _)
  · simp only [List.mem_append, List.append_nil, List.mem_cons, List.not_mem_nil, or_false] at hb
    rcases hb with q | q
    · exact (merge_out (x31 b q)).trans (h.fr b (m1 b q))
    · rw [q]; exact (merge_out d3).trans ID
theorem dc_in {J : It} {S : Hp → Hp → Prop} {tg : T} {c : FT} {ke ve : FE} {pk : Bool} (src : Src G J ys S) (h1 : Hld G n I H F σ [v] [x] e1 I1 H1 Fs F1) (st : ∀ i fs, x = .pl i fs → fs = []) (ro : rootOut own x = true) (tgo : ∀ j ∈ tgIx tg, j ∈ own)
    (hS : ∀ {k : Bool} {I0 H0 : Hp} {F0 : List Addr} {I' H' : Hp} {e' : RF.Env} {Gs F' : List Addr}, Hld G k I0 H0 F0 (wipe σ own) [v] [x] e' I' H' Gs F' → sameAt (wipeE e1 own) e' x = true → S I' H') (pl : (own.all (plainAt e1)) = true) {accE : List (PV × PV)} {eE : RF.Env}
    (hl : dcL tg own (fun e2 => sameAt (wipeE e1 own) e2 x) c ke ve ys [] (wipeE e1 own) = .ok accE eE) (q : PostE G EX (n && (m && (pk && l))) (.ok (.sl (.odic accE)) (backE e1 eE own)) I H F σ Q) :
    ∀ D, H1 D = Option.none → ∃ W : Nat → Nat → Hp → Prop, (∃ m, W 0 m (upd H1 D (.dK []))) ∧ ∀ i m0 H, W i m0 H →
      (J.stop i H ∧ Q (.ref D) H) ∨ (J.go i H ∧ ∃ Nx : Hp → Prop, (∀ H', Nx H' → ∃ m', m' < m0 ∧ W (i + 1) m' H') ∧ ∀ x H', J.yld i H x H' → tgR G.K tg x (wipe σ own) H' fun σ2 H2 => wipe σ2 own = wipe σ own ∧ tT G EXf m c σ2 H2 fun b H3 =>
        if b = true then tE G EXf pk ke σ2 H3 fun y H4 => tE G EXf l ve σ2 H4 fun z H5 => DStore G.K G.w H5 D y z Nx else Nx H3) := by
  intro D hD
  have rout : ∀ i fs, EV.pl i fs = x → i ∉ own := fun i fs q => by
    subst q
    simpa [rootOut] using ro
  have rE : ∀ {σ2 : L2.St}, wipe σ2 own = wipe σ own → ∀ i fs (acc : List (PV × PV)), EV.pl i fs ∈ [x, .sl (.odic acc)] → σ2[i]? = (wipe σ own)[i]? := fun {σ2} hw i fs acc hm => by
    have hi : i ∉ own := by
      rcases List.mem_cons.mp hm with q | q
      · exact rout i fs q
      · rcases List.mem_cons.mp q with q | q
        · cases q
        · cases q
    rw [← wipe_out hi, hw]
  have hb1 : Hld G true I1 H1 (Fs ++ F1) σ [v] [x] e1 I1 H1 Fs F1 := ⟨Stp.refl _, h1.w, h1.ev, h1.nd, h1.fr⟩
  -- what holds ahead of each turn
  let Pv : Nat → Hp → Prop := fun i H' => ∃ acc e' I' Gs F', Hld G (m && (pk && l)) I1 H1 (Fs ++ F1) (wipe σ own) [v, .ref D] [x, .sl (.odic acc)] e' I' H' Gs F' ∧ sameAt (wipeE e1 own) e' x = true ∧
    dcL tg own (fun e2 => sameAt (wipeE e1 own) e2 x) c ke ve (ys.drop i) acc e' = .ok accE eE ∧ i ≤ ys.length
  have p0 : Pv 0 (upd H1 D (.dK [])) := by
    obtain ⟨F2, w2, s2⟩ := h1.w.wipe own
    have h2 := hb1.mv (σ' := wipe σ own) w2 s2 fun i fs hm => by
      rcases List.mem_cons.mp hm with q | q
      · exact wipe_out (rout i fs q)
      · cases q
    have h3 := h2.freshD hD
    refine ⟨[], _, _, _, _, ⟨h3.stp.less fun z => rfl, h3.w, h3.ev, h3.nd, h3.fr⟩, ?_, ?_, Nat.zero_le _⟩
    · cases x with
      | sl _ => rfl
      | pl i fs => exact decide_eq_true rfl
    · rw [List.drop_zero]; exact hl
  refine ⟨fun i m0 H' => Pv i H' ∧ m0 = ys.length - i, ⟨_, p0, rfl⟩, fun i m0 H' ⟨⟨acc, e', I', Gs, F', h2, sa, hl2, hi⟩, hm0⟩ => ?_⟩
  obtain ⟨Gs1, h2f⟩ := h2.first
  have hs := hS h2f sa
  by_cases hlt : i < ys.length
  · refine .inr ⟨src.go i I' H' h2.w.ex hs hlt, Pv (i + 1), fun H'' p => ⟨ys.length - (i + 1), by omega, p, rfl⟩, fun xv H2 hy => ?_⟩
    obtain ⟨I2, p, hp, new, rp⟩ := src.yld i I' H' xv H2 h2.w.ex hs hlt hy
    have h3 := h2.grow new
    have hdrop : ys.drop i = p :: ys.drop (i + 1) := by
      obtain ⟨hb, he⟩ := List.getElem?_eq_some_iff.mp hp
      rw [List.drop_eq_getElem_cons hb, he]
    rw [hdrop] at hl2
    rw [dcL] at hl2
    cases za : asgT tg p e' with
    | none => rw [za] at hl2; cases hl2
    | some e2 =>
      rw [za] at hl2
      dsimp only at hl2
      refine t_tg za h3.w rp fun σ2 F2 w2 sub2 hlen hj => ?_
      have hw : wipe σ2 own = wipe σ own := by
        rw [← wipe_wipe (σ := σ)]
        exact wipe_eq hlen fun j hjo => hj j fun q => hjo (tgo j q)
      refine ⟨hw, ?_⟩
      have h4 := h3.mv w2 sub2 fun i fs hm => rE hw i fs acc hm
      have sty : ∀ (b : Bool), ((m && (pk && l)) = true → b = true) → ∀ x' ∈ [x, EV.sl (.odic acc)], StayP b x' := fun b hb x' hx => by
        rcases List.mem_cons.mp hx with rfl | q
        · cases x' with
          | sl _ => trivial
          | pl i fs => exact .inl (st _ _ rfl)
        · rcases List.mem_cons.mp q with rfl | q
          · trivial
          · cases q
      refine h4.test (m := m) (sty m fun z => by simp only [Bool.and_eq_true] at z; exact z.1) ?_
      cases zc : c e2 with
      | exc _ _ => rw [zc] at hl2; cases hl2
      | bad => rw [zc] at hl2; cases hl2
      | ok b e3 =>
        rw [zc] at hl2
        intro I3 H3 F3 h5
        -- the turn's end: names wiped again
        have back : ∀ {σ9 : L2.St} {acc' : List (PV × PV)} {e9 : RF.Env} {I9 H9 : Hp} {G9 F9 : List Addr} {kk : Bool}, wipe σ9 own = wipe σ own → Hld G kk I1 H1 (Fs ++ F1) σ9 [v, .ref D] [x, .sl (.odic acc')] e9 I9 H9 G9 F9 → ((m && (pk && l)) = true → kk = true) → sameAt (wipeE e1 own) (wipeE e9 own) x = true →
            dcL tg own (fun e2 => sameAt (wipeE e1 own) e2 x) c ke ve (ys.drop (i + 1)) acc' (wipeE e9 own) = .ok accE eE → Pv (i + 1) H9 := fun {σ9 acc' e9 I9 H9 G9 F9 kk} hw9 h9 hk sa9 hl9 => by
          obtain ⟨F0, w0, s0⟩ := h9.w.wipe own
          have h10 := h9.mv w0 s0 fun i fs hm => by
            have hi : i ∉ own := by
              rcases List.mem_cons.mp hm with q | q
              · exact rout i fs q
              · rcases List.mem_cons.mp q with q | q
                · cases q
                · cases q
            exact wipe_out hi
          rw [hw9] at h10
          exact ⟨acc', _, _, _, _, ⟨h10.stp.less hk, h10.w, h10.ev, h10.nd, h10.fr⟩, sa9, hl9, hlt⟩
        cases b with
        | false =>
          show Pv (i + 1) H3
          dsimp only at hl2
          by_cases ck : sameAt (wipeE e1 own) (wipeE e3 own) x = true
          · rw [if_pos ck] at hl2
            exact back hw h5 (fun z => by simp only [Bool.and_eq_true] at z ⊢; simp [z.1, z.2]) ck hl2
          · rw [if_neg ck] at hl2; cases hl2
        | true =>
          show tE G EXf pk ke σ2 H3 fun y H4 => tE G EXf l ve σ2 H4 fun z H5 => DStore G.K G.w H5 D y z (Pv (i + 1))
          dsimp only at hl2
          refine h5.eval (m := pk) (sty pk fun z => by simp only [Bool.and_eq_true] at z; exact z.2.1) ?_
          cases zk : ke e3 with
          | exc _ _ => rw [zk] at hl2; cases hl2
          | bad => rw [zk] at hl2; cases hl2
          | ok yk e4 =>
            rw [zk] at hl2
            cases yk with
            | pl _ _ => cases hl2
            | sl sk =>
              cases sk with
              | val kp =>
                dsimp only at hl2
                intro kv I4 H4 Gs4 F4 h6
                refine h6.eval (m := l) (fun x' hx => ?_) ?_
                · rcases List.mem_append.mp hx with hx | hx
                  · exact sty l (fun z => by simp only [Bool.and_eq_true] at z; exact z.2.2) x' hx
                  · rw [List.mem_singleton.mp hx]; trivial
                cases zv : ve e4 with
                | exc _ _ => rw [zv] at hl2; cases hl2
                | bad => rw [zv] at hl2; cases hl2
                | ok yv e5 =>
                  rw [zv] at hl2
                  cases yv with
                  | pl _ _ => cases hl2
                  | sl s =>
                    dsimp only at hl2
                    by_cases ck : (live s && (dKeyOk acc kp && decide (acc.length < lim)) && sameAt (wipeE e1 own) (wipeE e5 own) x) = true
                    · rw [if_pos ck] at hl2
                      simp only [Bool.and_eq_true] at ck
                      intro yv I5 H5 Gs5 F5 h7
                      obtain ⟨d, I6, ex6, hd, rr, rk, ru, fin⟩ := Hld.dpush h7 hD ck.1.1 st
                      refine put_of ex6 hd rr ck.1.2.1 (Nat.lt_of_lt_of_le (of_decide_eq_true ck.1.2.2) lim_le) (.imm rk) ru fun d' r' => ?_
                      obtain ⟨Gs6, h8⟩ := fin d' _ r'
                      exact back hw h8 (fun z => by simp only [Bool.and_eq_true] at z ⊢; simp [z.1, z.2.1, z.2.2]) ck.2 hl2
                    · rw [if_neg ck] at hl2; cases hl2
              | _ => cases hl2
  · have hi2 : i = ys.length := by omega
    subst hi2
    refine .inl ⟨src.stop I' H' h2.w.ex hs, ?_⟩
    rw [List.drop_length, dcL] at hl2
    cases hl2
    obtain ⟨_, _, _, _, r1⟩ := h2.ev.hd
    obtain ⟨A2, B2, _, hd, r2⟩ := r1.hd
    obtain ⟨F9, en9, s9⟩ := EnvR.back h1.w.env (I := I') (H := H') h2.stp.ex pl h2.w.env
    obtain ⟨Gs8, h8⟩ := h2.tail
    obtain ⟨A8, B8, hA8, hd8, r8⟩ := h8.ev.hd
    cases r8
    have w9 : W G I' H' σ (backE e1 _ own) F9 := ⟨h2.w.ex, en9, h2.w.nd.sublist s9, fun b hb => h2.w.fr b (s9.subset hb)⟩
    have nd8 := h8.nd
    have st8 := h8.stp
    have fr8 := h8.fr
    rw [hA8, List.append_nil] at nd8 st8 fr8
    exact q (.ref D) I' H' F9 A8 ((h1.stp.trans st8).weak (fun z => z) fun b hb => by
      rcases List.mem_append.mp hb with q | q
      · exact List.mem_append_left _ q
      · exact List.mem_append_right _ (s9.subset q)) w9 (by
      cases hd8 with
      | sl hd8 => exact .sl hd8) (nd8.sublist (List.Sublist.append (List.Sublist.refl _) s9)) fr8
theorem t_dc {fi : RF.Env → R (EV × List PV)} {tg : T} {c : FT} {ke ve : FE} {pk : Bool} (st : ∀ e xy e', fi e = .ok xy e' → ∀ i fs, xy.1 = .pl i fs → fs = []) (tgo : ∀ j ∈ tgIx tg, j ∈ own)
    (z : tE G EX (n && (m && (pk && l))) (fun e => (fi e).bind (kDc own tg c ke ve)) σ H Q) : tDcX G.K G.w (tI G EX n fi) (tgR G.K tg) (tT G EXf m c) (tE G EXf pk ke) (tE G EXf l ve) own σ H Q := by
  obtain ⟨I, e, F, w, q⟩ := z
  try dsimp only at q
  refine ⟨I, e, F, w, ?_⟩
  cases zf : fi e with
  | exc x e' => rw [zf] at q; exact q
  | bad => rw [zf] at q; exact q
  | ok xy e1 =>
    rw [zf] at q
    have q' : PostE G EX (n && (m && (pk && l))) (kDc own tg c ke ve xy e1) I H F σ Q := q
    intro v I1 H1 Gs F1 J S h1 src hS
    unfold kDc at q'
    by_cases cc : (own.all (plainAt e1) && rootOut own xy.1) = true
    · rw [if_pos cc] at q'
      rw [Bool.and_eq_true] at cc
      cases zl : dcL tg own (fun e2 => sameAt (wipeE e1 own) e2 xy.1) c ke ve xy.2 [] (wipeE e1 own) with
      | exc _ _ => rw [zl] at q'; exact q'.elim
      | bad => rw [zl] at q'; exact q'.elim
      | ok acc eE =>
        rw [zl] at q'
        refine dc_in src h1 ?_ cc.2 tgo (fun {k I0 H0 F0 I' H' e' Gs F'} h sa => ?_) cc.1 zl q'
        · exact fun i fs hx => st _ _ _ zf i fs hx
        · obtain ⟨_, _, _, hv, _⟩ := h.ev.hd
          exact hS h.w hv (same_val cc.2 sa)
    · rw [if_neg cc] at q'; exact q'.elim
end
end RF
set_option maxHeartbeats 1000000
namespace RF
open PySem PySem.Spec PyProof.Rows L2 Evl
theorem meets_enumerate_new1 {v : Value} {o : Obj} {H : Heap → Prop} (B : Begins v o H) :
    Meets (Builtin.«enumerate.__new__» ⟨[.type "enumerate", v], []⟩) (fun _ R s => H s.heap ∧
      R (.ok (.ret (.ref (s.heap.push o).objs.size))) { s with heap := (s.heap.push o).push { cls := .type "enumerate", data := .fields #[.none, .bool false, .ref s.heap.objs.size, rawInt 0, .none, .none] } }) :=
  .of_wp fun prog w A R s h => by
    obtain ⟨hp, g, d, tk, os⟩ := s; obtain ⟨h1, h⟩ := h
    have hsub := PySem.sub_enumerate
    have q1 : ∀ {A' : Around} {E : Value → Shared → Prop} {Q : Value → Shared → Prop}, Q (.ref hp.objs.size) ⟨hp.push o, g, d, tk, os⟩ → wpAny (model prog w) A' (pyIter v) Q E ⟨hp, g, d, tk, os⟩ :=
      fun q => B.iter prog w _ _ ⟨hp, g, d, tk, os⟩ _ h1 q
    wp_walk using q1
    refine wpAny_stack_any fun st => wpAny_pure ?_
    split
    · rename_i c _ _ _ _ _
      cases (c == Value.type "enumerate")
      · wp_walk using q1
        exact ⟨_, rfl, h⟩
      · wp_walk using q1
        exact ⟨_, rfl, h⟩
    · wp_walk using q1
      exact ⟨_, rfl, h⟩
theorem enum_begins1 {prog : Program} {w : World} {A : Around} {E : Value → Shared → Prop} {s : Shared} {v : Value} {o : Obj} {H : Heap → Prop} {Q : Value → Shared → Prop} (B : Begins v o H) (h1 : H s.heap)
    (h : ∀ h', IsEnum h' (s.heap.objs.size + 1) s.heap.objs.size 0 .none → h'.get? s.heap.objs.size = some o → h'.objs.size = s.heap.objs.size + 2 →
      (∀ b o, s.heap.get? b = some o → h'.get? b = some o) → Q (.ref (s.heap.objs.size + 1)) { s with heap := h' }) :
    wpAny (model prog w) A (call (.type "enumerate") [v]) Q E s := by
  refine callType_new F.called_enumerate (by decide) (F.typeCall_enumerate_1 _) (F.newCall_enumerate_1 _) (fun obj => F.args_object_init_2 obj _) F.entry_enumerate_new
    (meets_enumerate_new1 B) ⟨h1, ?_⟩
  have hz : (s.heap.push o).objs.size = s.heap.objs.size + 1 := Heap.size_push ..
  show _ ∧ _
  rw [hz]
  have he : IsEnum ((s.heap.push o).push { cls := .type "enumerate", data := .fields #[.none, .bool false, .ref s.heap.objs.size, rawInt 0, .none, .none] }) (s.heap.objs.size + 1) s.heap.objs.size 0 .none := by
    have := Heap.get?_push_size (s.heap.push o) (o := { cls := .type "enumerate", data := .fields #[.none, .bool false, .ref s.heap.objs.size, rawInt 0, .none, .none] }) rfl
    rw [hz] at this; exact this
  refine ⟨⟨_, he, rfl⟩, h _ he (Heap.get?_push_of_some _ (Heap.get?_push_size _ B.free)) (by rw [Heap.size_push, hz]) fun b o x => Heap.get?_push_of_some _ (Heap.get?_push_of_some _ x)⟩
def IteT (K : PySem.W.Frag) (a : Addr) : It :=
  ⟨fun i H => ∃ (xs : List V) (x : V), SqT K H a xs ∧ xs[i]? = some x, fun i H v H' => ∃ T x, v = .ref T ∧ H T = none ∧ H' = upd H T (.tup [.int (i : Nat), x]) ∧ ∀ xs, SqT K H a xs → xs[i]? = some x, fun i H => ∃ xs : List V, SqT K H a xs ∧ xs.length ≤ i⟩
theorem enumT_end {prog : Program} {w : World} {A : Around} {E : Value → Shared → Prop} {s : Shared} {e it t : Addr} {i : Nat} {items : Array Value} {old : Value} {Q : Option Value → Shared → Prop} (hh : A.handled = none)
    (he : IsEnum s.heap e it ((i : Nat) : Int) old) (hit : s.heap.IsTupleIter it t i) (ht : s.heap.IsTuple t items) (hx : items[i]? = none) (hQ : ∀ h', Heap.ExtBut it s.heap h' → Q none { s with heap := h' }) : wpAny (model prog w) A (pyNext (.ref e)) Q E s := by
  have hT : s.TypeIs (.ref e) "enumerate" := ⟨_, he, rfl⟩
  unfold pyNext
  refine wpAny_bind (wpAny_attempt (wpAny_callSpecial?_slot (name := Str.ofString "__next__") hT F.slot_enumerate_next
    (wpAny_call_entry F.slot_enumerate_next hT F.entry_enumerate_next ?_ (F.args_enumerate_next_1 _))))
  show wpAny _ _ (field (.ref e) 2 >>= _) _ _ _
  refine wpAny_bind (wpAny_field he rfl (x := .ref it) rfl ?_)
  refine wpAny_bind (wpAny_nextOf_tuple_end (A := A.in1) hh hit ht hx fun h' x he' hx' => ?_)
  obtain ⟨o, ho, hc⟩ := hx'
  refine wpAny_bind (wpAny_isInstance (T := "StopIteration") (b := true) ⟨o, ho, hc⟩ isSubtype_stop ?_)
  exact wpAny_pure (hQ _ he')
theorem turn_enumT {P : Program} {w : World} {K : PySem.W.Frag} {elts : List Expr} {kk : Nat} {tpos : Pos} (a e it : Addr) :
    Turn P w K (.Tuple elts kk tpos) (IteT K a) [e, it] e (fun i h => (∃ old, IsEnum h e it ((i : Nat) : Int) old) ∧ h.IsTupleIter it a i ∧ e ≠ it) where
  mem := by simp
  obj := fun i h st b hb => by
    obtain ⟨⟨old, he⟩, ⟨o, ho, hc, hd⟩, _⟩ := st
    have e' : b = e ∨ b = it := by simpa using hb
    rcases e' with z | z
    · rw [z]; exact ⟨_, he, fun v q => nomatch q⟩
    · rw [z]; exact ⟨o, ho, fun v q => by rw [hd] at q; cases q⟩
  keep := fun i h h' st k => let ⟨⟨old, he⟩, hi, hne⟩ := st; ⟨⟨old, k e (by simp) _ he⟩, hi.at fun o q => k it (by simp) o q, hne⟩
  item := by
    intro X hP hw hK hc i pins s σ H E I hf st hg
    subst hP hw hK
    obtain ⟨⟨old, he⟩, hit, hne⟩ := st
    obtain ⟨xs, x, hq, hx⟩ := hg
    obtain ⟨its, rv, p, hz⟩ := I.tuple hq
    obtain ⟨u, hu, ru⟩ := rv.get hx
    have hel : e < s.heap.objs.size := Heap.lt_size he
    have hil : it < s.heap.objs.size := by obtain ⟨_, q, _⟩ := hit; exact Heap.lt_size q
    have hae : a ≠ e := fun q => by
      obtain ⟨o, ho, hcl, _⟩ := p
      rw [q, he] at ho
      cases ho
      exact absurd hcl (by simp)
    have hai : a ≠ it := fun q => by
      obtain ⟨o, ho, hcl, _⟩ := p
      obtain ⟨o2, ho2, hcl2, _⟩ := hit
      rw [q, ho2] at ho
      cases ho
      rw [hcl2] at hcl
      exact absurd hcl (by simp)
    have D := Draws.tuple (prog := X.prog) (w := X.w) (A := X.A.in1) (I.ok.hd hc) it a hai its.toArray
    have hlt : i < its.toArray.size := by
      have := (List.getElem?_eq_some_iff.mp hu).1
      simpa using this
    refine wpAny_pyNext_enum_itemD D he ⟨hit, p⟩ hlt hne (by simp [hne, Ne.symm hae]) fun x' h' tk hx' ho hst hT hsz hk => ?_
    have ex : x' = u := by
      have : its.toArray[i]? = some u := by simpa using hu
      rw [this] at hx'
      exact (Option.some.inj hx').symm
    subst ex
    refine ⟨_, rfl, wpAny_letOwnedTupleGo_enum (s := { s with heap := h', toks := tk + 1 }) ho fun h'' he' sb => ?_⟩
    have hT2 : h''.get? s.heap.objs.size = some { cls := .type "tuple", data := .seq #[.int i tk, x'] } := (sb.2 _ (Nat.ne_of_gt hel)).trans hT
    have new : ObjOk X.prog X.w (upd H s.heap.objs.size (.tup [.int (i : Nat), x])) h'' s.heap.objs.size (.tup [.int (i : Nat), x]) :=
      ⟨by show 2 ≤ sizeLine; decide, [.int i tk, x'], .cons ⟨_, rfl⟩ (.cons ru .nil), ⟨_, hT2, rfl, _, rfl⟩⟩
    have I1 : Inv X pins σ (upd H s.heap.objs.size (.tup [.int (i : Nat), x])) { s with heap := h'', toks := tk + 1 } :=
      I.turnedNew (ch := [e, it]) (fun b ob hb q => (sb.2 b (fun z => hb (by simp [z]))).trans (hk b ob (fun z => hb (by simp [z])) (fun z => hb (by simp [z])) q)) hf (Nat.le_refl _) new
    refine ⟨.ref s.heap.objs.size, _, I1, rfl, ⟨_, x, rfl, I.hok.fresh (Nat.le_refl _), rfl, fun ys hy => by rw [I.tuple_inj hy hq]; exact hx⟩, ⟨⟨x', ?_⟩, hst.1.at fun o q => (sb.2 it (Ne.symm hne)).trans q, hne⟩, fun b hb => ?_⟩
    · have e1 : ((i + 1 : Nat) : Int) = (i : Int) + 1 := by omega
      rw [e1]; exact he'
    · have hb' : b < s.heap.objs.size := by
        have e' : b = e ∨ b = it := by simpa using hb
        rcases e' with z | z
        · rw [z]; exact hel
        · rw [z]; exact hil
      rw [upd_ne (Nat.ne_of_lt hb')]
      exact (hf b hb).1
  done := by
    intro X hP hw hK hc i pins s σ H E I hf st hg
    subst hP hw hK
    obtain ⟨⟨old, he⟩, hit, hne⟩ := st
    obtain ⟨xs, hq, hx⟩ := hg
    obtain ⟨its, rv, p, hz⟩ := I.tuple hq
    obtain ⟨f0, f1, f2, f3, f4, f5⟩ := hf it (by simp)
    have hl := rv.length
    have hai : a ≠ it := fun q => by
      obtain ⟨o, ho, hcl, _⟩ := p
      obtain ⟨o2, ho2, hcl2, _⟩ := hit
      rw [q, ho2] at ho
      cases ho
      rw [hcl2] at hcl
      exact absurd hcl (by simp)
    have hl2 : its.toArray[i]? = none := by simp; omega
    exact enumT_end (I.ok.hd hc) he hit p hl2 fun h' eb => ⟨rfl, I.turned (t' := s.toks) (fun b o hb q => eb b o hb q) f0 f1 f3 f4 f5⟩
  self := fun A i s Q E st h => let ⟨⟨_, he⟩, _⟩ := st; wpAny_pyIter_enum he h
def iEnumA (K : PySem.W.Frag) (te : TE) : TI := fun σ H R => te σ H fun v H1 => ∃ a, [v] = [V.ref a] ∧ ((∃ xs, SqL K H1 a xs ∧ R (Ite K a) H1) ∨ ∃ xs, SqT K H1 a xs ∧ R (IteT K a) H1)
theorem pi_enumA {X : Cx} {e : Expr} {te : TE} {p pos tpos : Pos} {elts : List Expr} {kk : Nat} (hg : L2.Gl X "enumerate") (hm : X.mg "enumerate" = none) (ha : PA X [e] (tCons te tNil)) (hs : starEach [e] X.env = [(false, eval e X.env)]) :
    PI X (.Tuple elts kk tpos) (.Call (.Name "enumerate" p) [e] [] pos) (iEnumA X.K te) := by
  refine ⟨fun pins s σ H R I h => ?_⟩
  have h' : tCons te tNil σ H fun vs H1 => ∃ a, vs = [.ref a] ∧ ((∃ xs, SqL X.K H1 a xs ∧ R (Ite X.K a) H1) ∨ ∃ xs, SqT X.K H1 a xs ∧ R (IteT X.K a) H1) := h
  refine Call_ (ld_blt I hg hm boot_enumerate (PyProof.Rows.callWith_type1 (thn (ha.run pos pins s σ H _ I h') fun us s1 ⟨vs, H1, I1, r1, q1⟩ => ?_) hs rfl))
  obtain ⟨a, rfl, q⟩ := q1
  cases r1 with
  | cons r rr =>
    cases rr
    cases r
    have fresh2 : ∀ b, b ∈ [s1.heap.objs.size + 1, s1.heap.objs.size] → FpOk X pins H1 b := fun b hb => by
      have e' : b = s1.heap.objs.size + 1 ∨ b = s1.heap.objs.size := by simpa using hb
      have hle : s1.heap.objs.size ≤ b := by
        rcases e' with z | z
        · rw [z]; exact Nat.le_add_right _ _
        · rw [z]; exact Nat.le_refl _
      exact I1.fpOk hle (I1.hok.fresh hle)
    rcases q with ⟨xs, hq, q⟩ | ⟨xs, hq, q⟩
    · obtain ⟨its, rv, p', hz⟩ := I1.list hq
      refine call_enumerate_list p'.isList fun h' he hit hsz hk => wpAny_pyIter_enum he ?_
      have I2 : Inv X pins σ H1 { s1 with heap := h' } := I1.kept (t' := s1.toks) hk
      exact ⟨s1.heap.objs.size + 1, [s1.heap.objs.size + 1, s1.heap.objs.size], _, _, H1, rfl, I2, turn_enum a (s1.heap.objs.size + 1) s1.heap.objs.size, ⟨⟨.none, he⟩, hit, Nat.succ_ne_self _⟩, fresh2, q⟩
    · obtain ⟨its, rv, p', hz⟩ := I1.tuple hq
      refine enum_begins1 (begins_tuple a its.toArray) p' fun h' he hit hsz hk => wpAny_pyIter_enum he ?_
      have I2 : Inv X pins σ H1 { s1 with heap := h' } := I1.kept (t' := s1.toks) hk
      exact ⟨s1.heap.objs.size + 1, [s1.heap.objs.size + 1, s1.heap.objs.size], _, _, H1, rfl, I2, turn_enumT a (s1.heap.objs.size + 1) s1.heap.objs.size, ⟨⟨.none, he⟩, ⟨_, hit, rfl, rfl⟩, Nat.succ_ne_self _⟩, fresh2, q⟩
section
variable {G : Gr} {EX : WX} {n m l nc k : Bool} {I I1 I' H H1 H' : Hp} {F F1 F' Fs Fx Gs : List Addr} {σ σ' : L2.St} {e e1 e' : RF.Env} {v u : V} {x y : EV} {vs : List V} {xs : List EV} {s : Slot} {ps ys : List PV} {Q : VK} {own : List Nat} {a : Addr} {R' : It → Hp → Prop}
theorem enumV_len : (enumV ys).length = ys.length := by simp [enumV]
theorem enumV_at {i : Nat} {p : PV} (h : ys[i]? = some p) : (enumV ys)[i]? = some (.tup [.int i, p]) := by
  unfold enumV
  rw [List.getElem?_map, List.getElem?_zipIdx, h]
  simp
theorem src_enumL {p : PV} (hp : p = .lst ys ∨ p = .xls ys) : Src G (Ite G.K a) (enumV ys) (fun I H => BRep G I H (.ref a) p) := by
  have get : ∀ {I H : Hp}, Ex I H → BRep G I H (.ref a) p → ∃ ws, SqL G.K H a ws ∧ RepL G I ws ys := fun {I H} ex b => by
    rcases hp with rfl | rfl
    · obtain ⟨a', ws, e, h, r⟩ := b.to_lst ex
      cases e
      exact ⟨ws, sq_of h, r⟩
    · obtain ⟨a', ws, e, h, r⟩ := b.to_xls ex
      cases e
      exact ⟨ws, h, r⟩
  refine ⟨fun i I H ex b hi => ?_, fun I H ex b => ?_, fun i I H x H' ex b hi q => ?_⟩
  · obtain ⟨ws, h, r⟩ := get ex b
    rw [enumV_len] at hi
    have hl : i < ws.length := by rw [r.length]; exact hi
    exact ⟨ws, ws[i], h, List.getElem?_eq_getElem hl⟩
  · obtain ⟨ws, h, r⟩ := get ex b
    exact ⟨ws, h, by rw [enumV_len, r.length]; exact Nat.le_refl _⟩
  · obtain ⟨ws, h, r⟩ := get ex b
    obtain ⟨T, x0, rfl, hT, rfl, hx⟩ := q
    obtain ⟨p', hp', rp⟩ := r.getV (hx ws h)
    exact ⟨upd I T (.tup [.int (i : Nat), x0]), _, enumV_at hp', New.imm ex hT, .tup (.inl (.inl upd_same)) (.cons (.int _) (.cons (rp.mono (Ex.new (in_none ex hT))) .nil))⟩
theorem src_enumT : Src G (IteT G.K a) (enumV ys) (fun I H => BRep G I H (.ref a) (.tup ys)) := by
  have get : ∀ {I H : Hp}, Ex I H → BRep G I H (.ref a) (.tup ys) → ∃ ws, SqT G.K H a ws ∧ RepL G I ws ys := fun {I H} ex b => by
    obtain ⟨a', ws, e, _, h, r⟩ := b.to_tup ex
    cases e
    exact ⟨ws, h, r⟩
  refine ⟨fun i I H ex b hi => ?_, fun I H ex b => ?_, fun i I H x H' ex b hi q => ?_⟩
  · obtain ⟨ws, h, r⟩ := get ex b
    rw [enumV_len] at hi
    have hl : i < ws.length := by rw [r.length]; exact hi
    exact ⟨ws, ws[i], h, List.getElem?_eq_getElem hl⟩
  · obtain ⟨ws, h, r⟩ := get ex b
    exact ⟨ws, h, by rw [enumV_len, r.length]; exact Nat.le_refl _⟩
  · obtain ⟨ws, h, r⟩ := get ex b
    obtain ⟨T, x0, rfl, hT, rfl, hx⟩ := q
    obtain ⟨p', hp', rp⟩ := r.getV (hx ws h)
    exact ⟨upd I T (.tup [.int (i : Nat), x0]), _, enumV_at hp', New.imm ex hT, .tup (.inl (.inl upd_same)) (.cons (.int _) (.cons (rp.mono (Ex.new (in_none ex hT))) .nil))⟩
theorem it_ien {fa : FE} (z : tI G EX n (fun e => (fa e).bind kIen) σ H R') : iEnumA G.K (tE G EX n fa) σ H R' := by
  obtain ⟨I, e, F, w, q⟩ := z
  try dsimp only at q
  refine (Hld.start w).eval (m := n) (fun x hx => nomatch hx) ?_
  cases zf : fa e with
  | exc x e' => rw [zf] at q; exact q
  | bad => rw [zf] at q; exact q.elim
  | ok x e1 =>
    rw [zf] at q
    have q' : PostI G EX n (kIen x e1) I H F σ R' := q
    unfold kIen at q'
    cases zw : walkOf e1 x with
    | none => rw [zw] at q'; exact q'.elim
    | some yp =>
      obtain ⟨y, p⟩ := yp
      rw [zw] at q'
      dsimp only at q'
      cases zi : itemsP p with
      | none => rw [zi] at q'; exact q'.elim
      | some ys =>
        rw [zi] at q'
        have key : ∀ {v I1 H1 Gs F1 J}, Hld G n I H F σ [v] [x] e1 I1 H1 Gs F1 → Src G J (enumV ys) (fun I H => BRep G I H v p) → R' J H1 := fun {v I1 H1 Gs F1 J} h1 src => by
          obtain ⟨k1, ⟨Gs2, k2⟩, _⟩ := h1.walk zw
          exact q' v I1 H1 Gs2 F1 J _ k2 src fun {I' H' σ' e' A F'} w' hv he => hv.b w' (he.trans k1)
        have getb : ∀ {v I1 H1 Gs F1}, Hld G n I H F σ [v] [x] e1 I1 H1 Gs F1 → BRep G I1 H1 v p := fun {v I1 H1 Gs F1} h1 => by
          obtain ⟨k1, ⟨Gs2, k2⟩, _⟩ := h1.walk zw
          obtain ⟨_, _, _, hv, _⟩ := k2.ev.hd
          exact hv.b k2.w k1
        intro v I1 H1 Gs F1 h1
        have b := getb h1
        by_cases ht : p = .tup ys
        · subst ht
          obtain ⟨a, ws, rfl, _, h, r⟩ := b.to_tup h1.w.ex
          exact ⟨a, rfl, .inr ⟨ws, h, key h1 src_enumT⟩⟩
        · have hp : p = .lst ys ∨ p = .xls ys := by
            cases p <;> first | cases zi | skip
            · exact absurd rfl ht
            · exact .inl rfl
            · exact .inr rfl
          have hq : ∃ a ws, v = .ref a ∧ SqL G.K H1 a ws := by
            rcases hp with rfl | rfl
            · obtain ⟨a, ws, rfl, h, r⟩ := b.to_lst h1.w.ex
              exact ⟨a, ws, rfl, sq_of h⟩
            · obtain ⟨a, ws, rfl, h, r⟩ := b.to_xls h1.w.ex
              exact ⟨a, ws, rfl, h⟩
          obtain ⟨a, ws, rfl, h⟩ := hq
          exact ⟨a, rfl, .inl ⟨ws, h, key h1 (src_enumL hp)⟩⟩
end
end RF
set_option maxHeartbeats 1000000
namespace RF
open PySem PySem.Spec PyProof.Rows L2 Evl
def Kept (kp : Nat → Bool) (σ σ' : L2.St) : Prop := σ'.length = σ.length ∧ ∀ j, kp j = true → σ'[j]? = σ[j]?
def PostS (G : Gr) (EX : WX) (kp : Nat → Bool) (r : SR) (I H : Hp) (F : List Addr) (σ : L2.St) (D : Ends) : Prop :=
  match r with
  | .nx e' => ∀ σ' I' H' F', Stp false I H F I' H' F' → W G I' H' σ' e' F' → Kept kp σ σ' → D.nx σ' H'
  | .bk e' => ∀ σ' I' H' F', Stp false I H F I' H' F' → W G I' H' σ' e' F' → Kept kp σ σ' → D.bk σ' H'
  | .ct e' => ∀ σ' I' H' F', Stp false I H F I' H' F' → W G I' H' σ' e' F' → Kept kp σ σ' → D.ct σ' H'
  | .rt s e' => ∀ v σ' I' H' F' Fs, Stp false I H F I' H' (Fs ++ F') → W G I' H' σ' e' F' → Kept kp σ σ' → SRep G I' H' v s Fs → (Fs ++ F').Nodup → (∀ a ∈ Fs, I' a = none) → D.rt v H'
  | .exc x e' => ∀ cls d σ' I' H' F', Stp false I H F I' H' F' → W G I' H' σ' e' F' → Kept kp σ σ' → XRep G I' H' cls d x → EX cls d σ' H'
  | .bad => False
def tS (G : Gr) (EX : WX) (kp : Nat → Bool) (f : RF.Env → SR) : TS := fun D σ H => ∃ I e F, W G I H σ e F ∧ PostS G EX kp (f e) I H F σ D
section
variable {G : Gr} {EX : WX} {n m l nc k : Bool} {kp : Nat → Bool} {I I1 I' H H1 H' : Hp} {F F1 F' Fs Fx Gs : List Addr} {σ σ' σ1 : L2.St} {e e1 e' : RF.Env} {v u : V} {x y : EV} {vs : List V} {xs : List EV} {s : Slot} {ps ys : List PV} {Q : VK} {D D' : Ends}
theorem Kept.refl : Kept kp σ σ := ⟨rfl, fun _ _ => rfl⟩
theorem Kept.trans (a : Kept kp σ σ1) (b : Kept kp σ1 σ') : Kept kp σ σ' := ⟨b.1.trans a.1, fun j h => (b.2 j h).trans (a.2 j h)⟩
theorem PostS.shift {r : SR} (q : PostS G EX kp r I H F σ D) (st : Stp false I H F I1 H1 F1) (k : Kept kp σ σ1) : PostS G EX kp r I1 H1 F1 σ1 D := by
  cases r with
  | nx e' => exact fun σ' I' H' F' st2 w k2 => q σ' I' H' F' ((st.trans st2).less fun z => nomatch z) w (k.trans k2)
  | bk e' => exact fun σ' I' H' F' st2 w k2 => q σ' I' H' F' ((st.trans st2).less fun z => nomatch z) w (k.trans k2)
  | ct e' => exact fun σ' I' H' F' st2 w k2 => q σ' I' H' F' ((st.trans st2).less fun z => nomatch z) w (k.trans k2)
  | rt s e' => exact fun v σ' I' H' F' Fs st2 w k2 => q v σ' I' H' F' Fs ((st.trans st2).less fun z => nomatch z) w (k.trans k2)
  | exc x e' => exact fun cls d σ' I' H' F' st2 w k2 => q cls d σ' I' H' F' ((st.trans st2).less fun z => nomatch z) w (k.trans k2)
  | bad => exact q
theorem PostS.ends {r : SR} (q : PostS G EX kp r I H F σ D) (h : match r with
    | .nx e' => ∀ σ' I' H' F', Stp false I H F I' H' F' → W G I' H' σ' e' F' → Kept kp σ σ' → D.nx σ' H' → D'.nx σ' H'
    | .bk e' => ∀ σ' I' H' F', Stp false I H F I' H' F' → W G I' H' σ' e' F' → Kept kp σ σ' → D.bk σ' H' → D'.bk σ' H'
    | .ct e' => ∀ σ' I' H' F', Stp false I H F I' H' F' → W G I' H' σ' e' F' → Kept kp σ σ' → D.ct σ' H' → D'.ct σ' H'
    | .rt s e' => ∀ v H', D.rt v H' → D'.rt v H'
    | _ => True) : PostS G EX kp r I H F σ D' := by
  cases r with
  | nx e' => exact fun σ' I' H' F' st2 w k2 => h σ' I' H' F' st2 w k2 (q σ' I' H' F' st2 w k2)
  | bk e' => exact fun σ' I' H' F' st2 w k2 => h σ' I' H' F' st2 w k2 (q σ' I' H' F' st2 w k2)
  | ct e' => exact fun σ' I' H' F' st2 w k2 => h σ' I' H' F' st2 w k2 (q σ' I' H' F' st2 w k2)
  | rt s e' => exact fun v σ' I' H' F' Fs st2 w k2 r nd fr => h v H' (q v σ' I' H' F' Fs st2 w k2 r nd fr)
  | exc x e' => exact q
  | bad => exact q
theorem Hld.excS {x : Exn} (q : PostS G EX kp (.exc x e') I H F σ D) : ∀ cls d I' H' F', Stp false I H F I' H' F' → W G I' H' σ e' F' → XRep G I' H' cls d x → EX cls d σ H' := fun cls d I' H' F' st w xr => q cls d σ I' H' F' st w Kept.refl xr
theorem s_ex {f : FE} {kf : EV → RF.Env → SR} {t' : V → Hp → Prop} (w : W G I H σ e F) (q : PostS G EX kp (SR.of (f e) kf) I H F σ D)
    (hk : ∀ {v x e1 I1 H1 Gs F1}, Hld G n I H F σ [v] [x] e1 I1 H1 Gs F1 → PostS G EX kp (kf x e1) I H F σ D → t' v H1) : tE G EX n f σ H t' := by
  refine (Hld.start w).eval (m := n) (fun x hx => nomatch hx) ?_
  cases z : f e with
  | exc x e' => rw [z] at q; exact Hld.excS q
  | bad => rw [z] at q; exact q
  | ok x e1 => rw [z] at q; exact fun v I1 H1 Gs F1 h => hk h q
theorem s_tx {α : Type} {f : RF.Env → R α} {kf : α → RF.Env → SR} {t' : α → Hp → Prop} (w : W G I H σ e F) (q : PostS G EX kp (SR.of (f e) kf) I H F σ D)
    (hk : ∀ {x e1 I1 H1 F1}, Stp false I H F I1 H1 F1 → W G I1 H1 σ e1 F1 → PostS G EX kp (kf x e1) I H F σ D → t' x H1) : tT G EX n f σ H t' := by
  refine (Hld.start w).test (m := n) (fun x hx => nomatch hx) ?_
  cases z : f e with
  | exc x e' => rw [z] at q; exact Hld.excS q
  | bad => rw [z] at q; exact q
  | ok x e1 => rw [z] at q; exact fun I1 H1 F1 h => hk (h.nil.stp.less fun z => nomatch z) h.w q
theorem t_nop (z : tS G EX kp (fun e => .nx e) D σ H) : tNext D σ H := by
  obtain ⟨I, e, F, w, q⟩ := z
  exact q σ I H F (Stp.refl _) w Kept.refl
theorem t_seq {f g : RF.Env → SR} (z : tS G EX kp (fun e => match f e with
    | .nx e' => g e'
    | r => r) D σ H) : tSeq (tS G EX kp f) (tS G EX kp g) D σ H := by
  obtain ⟨I, e, F, w, q⟩ := z
  try dsimp only at q
  refine ⟨I, e, F, w, ?_⟩
  cases z : f e with
  | nx e1 => rw [z] at q; exact fun σ' I' H' F' st w2 k => ⟨I', e1, F', w2, q.shift st k⟩
  | bk e1 => rw [z] at q; exact q
  | ct e1 => rw [z] at q; exact q
  | rt s e1 => rw [z] at q; exact q
  | exc x e1 => rw [z] at q; exact q
  | bad => rw [z] at q; exact q
theorem t_xpr {f : FE} (z : tS G EX kp (fun e => SR.of (f e) fun _ e => .nx e) D σ H) : tDrop (tE G EX n f) D σ H := by
  obtain ⟨I, e, F, w, q⟩ := z
  exact s_ex w q fun h q => q σ _ _ _ (h.nil.stp.less fun z => nomatch z) h.w Kept.refl
theorem t_ret {f : FE} (z : tS G EX kp (fun e => SR.of (f e) kRet) D σ H) : tRet (tE G EX n f) D σ H := by
  obtain ⟨I, e, F, w, q⟩ := z
  refine s_ex w q fun {v x e1 I1 H1 Gs F1} h q => ?_
  unfold kRet at q
  cases x with
  | pl _ _ => exact q.elim
  | sl s =>
    dsimp only at q
    by_cases l : live s = true
    · rw [if_pos l] at q
      obtain ⟨A, B, rfl, hv, r⟩ := h.ev.hd
      cases r
      have st := h.stp
      have nd := h.nd
      have fr := h.fr
      rw [List.append_nil] at st nd fr
      cases hv with
      | sl hv => exact q v σ I1 H1 F1 A (st.less fun z => nomatch z) h.w Kept.refl hv nd fr
    · rw [if_neg l] at q; exact q.elim
theorem t_retN (z : tS G EX kp (fun e => .rt (.val .non) e) D σ H) : tRetN D σ H := by
  obtain ⟨I, e, F, w, q⟩ := z
  exact q .non σ I H F [] (Stp.refl _) w Kept.refl (.val .non) w.nd fun a h => nomatch h
theorem t_brk (z : tS G EX kp (fun e => .bk e) D σ H) : tBreak D σ H := by
  obtain ⟨I, e, F, w, q⟩ := z
  exact q σ I H F (Stp.refl _) w Kept.refl
theorem t_cnt (z : tS G EX kp (fun e => .ct e) D σ H) : tCont D σ H := by
  obtain ⟨I, e, F, w, q⟩ := z
  exact q σ I H F (Stp.refl _) w Kept.refl
theorem t_sif {c : FT} {f g : RF.Env → SR} (z : tS G EX kp (fun e => SR.of (c e) fun k e => match k with
    | true => f e
    | false => g e) D σ H) : tIfS (tT G EX n c) (tS G EX kp f) (tS G EX kp g) D σ H := by
  obtain ⟨I, e, F, w, q⟩ := z
  refine s_tx w q fun {k e1 I1 H1 F1} st w1 q => ?_
  cases k with
  | true => exact ⟨I1, e1, F1, w1, q.shift st Kept.refl⟩
  | false => exact ⟨I1, e1, F1, w1, q.shift st Kept.refl⟩
theorem Hld.store (h : Hld G n I H F σ [v] [.sl s] e1 I1 H1 Fs F1) (i : Nat) : ∃ F', W G I1 H1 (σ.set i (some v)) (e1.set i s) F' ∧ Stp false I H F I1 H1 F' := by
  obtain ⟨A, B, rfl, hv, r⟩ := h.ev.hd
  cases r
  cases hv with
  | sl hv =>
    have nd := h.nd
    have st := h.stp
    have fr := h.fr
    rw [List.append_nil] at nd st fr
    obtain ⟨F', en, F0, hs, hF⟩ := h.w.env.set i hv
    have key : (F'.Sublist F1) ∨ ∃ C1 C2, (C1 ++ C2).Sublist F1 ∧ F' = C1 ++ A ++ C2 := by
      rcases hF with rfl | ⟨C1, C2, rfl, rfl⟩
      · exact .inl hs
      · exact .inr ⟨C1, C2, hs, rfl⟩
    have mem : ∀ a ∈ F', a ∈ A ++ F1 := fun a ha => by
      rcases key with q | ⟨C1, C2, hs, rfl⟩
      · exact List.mem_append_right _ (q.subset ha)
      · simp only [List.mem_append] at ha ⊢
        rcases ha with (q | q) | q
        · exact .inr (hs.subset (by simp [q]))
        · exact .inl q
        · exact .inr (hs.subset (by simp [q]))
    have ndF : F'.Nodup := by
      rcases key with q | ⟨C1, C2, hs, rfl⟩
      · exact h.w.nd.sublist q
      · have n2 : (A ++ (C1 ++ C2)).Nodup := nd.sublist (List.Sublist.append (List.Sublist.refl _) hs)
        have pm : (A ++ (C1 ++ C2)).Perm (C1 ++ A ++ C2) := by
          rw [← List.append_assoc]
          exact List.Perm.append_right C2 List.perm_append_comm
        exact pm.nodup_iff.mp n2
    refine ⟨F', ⟨h.w.ex, en, ndF, fun a ha => ?_⟩, st.weak (fun z => nomatch z) mem⟩
    rcases List.mem_append.mp (mem a ha) with q | q
    · exact fr a q
    · exact h.w.fr a q
theorem kept_set {i : Nat} {o : Option V} (h : kp i = false) : Kept kp σ (σ.set i o) := ⟨by simp, fun j hj => by
  have ne : i ≠ j := fun q => by subst q; rw [h] at hj; cases hj
  exact List.getElem?_set_ne ne⟩
theorem t_asgN {f : FE} {i : Nat} (hk : kp i = false) (z : tS G EX kp (fun e => SR.of (f e) (kAsg (.tnm i))) D σ H) : tAsg (tE G EX n f) (gName i) D σ H := by
  obtain ⟨I, e, F, w, q⟩ := z
  refine s_ex w q fun {v x e1 I1 H1 Gs F1} h q => ?_
  unfold kAsg at q
  cases x with
  | pl _ _ => exact q.elim
  | sl s =>
    dsimp only at q
    by_cases l : live s = true
    · rw [if_pos l] at q
      obtain ⟨F', w', st⟩ := h.store i
      exact q _ I1 H1 F' st w' (kept_set hk)
    · rw [if_neg l] at q
      cases s with
      | own ss =>
        obtain ⟨F', w', st⟩ := h.store i
        exact q _ I1 H1 F' st w' (kept_set hk)
      | _ => exact q.elim
theorem Hld.froze (h : Hld G n I H F σ [v] [.sl s] e1 I1 H1 Fs F1) (l : live s = true) : ∃ I2, Hld G n I H F σ [] [] e1 I2 H1 [] F1 ∧ Rep G I2 v (frz s) := by
  obtain ⟨I2, h2, r⟩ := h.up (ps := [frz s]) (by simp [upsOf, upOf, l])
  cases r with
  | cons r _ => exact ⟨I2, h2, r⟩
theorem t_asgT {f : FE} {ts : T} (hk : ∀ j ∈ tgIx ts, kp j = false) (z : tS G EX kp (fun e => SR.of (f e) (kAsg (.ttp ts))) D σ H) : tAsg (tE G EX n f) (tgR G.K (.ttp ts)) D σ H := by
  obtain ⟨I, e, F, w, q⟩ := z
  refine s_ex w q fun {v x e1 I1 H1 Gs F1} h q => ?_
  unfold kAsg at q
  cases x with
  | pl _ _ => exact q.elim
  | sl s =>
    dsimp only at q
    by_cases l : live s = true
    · rw [if_pos l] at q
      cases za : asgT (.ttp ts) (frz s) e1 with
      | none => rw [za] at q; exact q.elim
      | some e2 =>
        rw [za] at q
        obtain ⟨I2, h2, r⟩ := h.froze l
        refine t_tg za h2.w r fun σ' F' w' sub hl hj => q σ' I2 H1 F' (h2.stp.weak (fun z => nomatch z) fun a ha => List.mem_append_right _ (sub.subset ha)) w' ⟨hl, fun j hkj => hj j fun q => ?_⟩
        rw [hk j q] at hkj; cases hkj
    · rw [if_neg l] at q; cases s <;> exact q.elim
def ipAny (K : PySem.W.Frag) : P2 → TIp
  | .add => rI0 fun i j => .int (i + j)
  | .sub => rI0 fun i j => .int (i - j)
  | .mul => rI CMul fun i j => .int (i * j)
  | _ => fun _ _ _ _ => False
theorem t_aug {f : FE} {i : Nat} {p : P2} (hk : kp i = false) (z : tS G EX kp (fun e => match e[i]? with
    | some (.val v) => SR.of (f e) (kAug i p v)
    | _ => .bad) D σ H) (hp : ∀ a b z, op2 p a b = some (.val (.int z)) → ∃ i j, a = .int i ∧ b = .int j ∧ ∀ (H : Hp) (Q : VK), Q (.int z) H → ipAny G.K p (.int i) (.int j) H Q) : tAug i (tE G EX n f) (ipAny G.K p) D σ H := by
  obtain ⟨I, e, F, w, q⟩ := z
  try dsimp only at q
  cases ze : e[i]? with
  | none => rw [ze] at q; exact q.elim
  | some s =>
    rw [ze] at q
    cases s with
    | val a =>
      obtain ⟨v, A, Fi, B, hv, hs, _⟩ := w.env.at ze (by simp)
      obtain ⟨_, ra⟩ := val_nil hs
      refine ⟨v, hv, s_ex w q fun {u x e1 I1 H1 Gs F1} h q => ?_⟩
      unfold kAug at q
      cases z1 : valOf e1 x with
      | none => rw [z1] at q; exact q.elim
      | some b =>
        rw [z1] at q
        dsimp only at q
        have fin : ∀ r1, op2 p a b = some (.val (.int r1)) → PostS G EX kp (.nx (e1.set i (.val (.int r1)))) I H F σ D → ipAny G.K p v u H1 fun z H2 => D.nx (σ.set i (some z)) H2 := fun r1 z2 q9 => by
          obtain ⟨i1, j1, rfl, rfl, hq⟩ := hp a b r1 z2
          cases ra
          obtain ⟨_, _, _, hu, _⟩ := h.ev.hd
          rw [(hu.b h.w z1).to_int]
          have hn := h.nil
          have h2 : Hld G n I H F σ [.int r1] [.sl (.val (.int r1))] e1 I1 H1 [] F1 := ⟨hn.stp, hn.w, .cons (F1 := []) (.sl (.val (.int r1))) .nil, hn.nd, hn.fr⟩
          obtain ⟨F', w', st⟩ := h2.store i
          exact hq _ _ (q9 _ I1 H1 F' st w' (kept_set hk))
        cases z2 : op2 p a b with
        | none => rw [z2] at q; exact q.elim
        | some t =>
          rw [z2] at q
          cases t with
          | val z =>
            cases z with
            | int r1 => exact fin r1 z2 q
            | _ => exact q.elim
          | _ => exact q.elim
    | _ => exact q.elim
end
end RF
set_option maxHeartbeats 1000000
namespace RF
open PySem PySem.Spec PyProof.Rows L2 Evl
section
variable {G : Gr} {EX : WX} {n m l nc k : Bool} {kp kp' : Nat → Bool} {I I1 I' H H1 H' : Hp} {F F1 F' Fs Fx Gs : List Addr} {σ σ' σ1 : L2.St} {e e1 e' : RF.Env} {v u : V} {x y : EV} {vs : List V} {xs : List EV} {s : Slot} {ps ys : List PV} {Q : VK} {D D' : Ends}
theorem Kept.less (h : ∀ j, kp j = true → kp' j = true) (q : Kept kp' σ σ') : Kept kp σ σ' := ⟨q.1, fun j hj => q.2 j (h j hj)⟩
theorem PostS.more {r : SR} (q : PostS G EX kp r I H F σ D) (h : ∀ j, kp j = true → kp' j = true) : PostS G EX kp' r I H F σ D := by
  cases r with
  | nx e' => exact fun σ' I' H' F' st w k => q σ' I' H' F' st w (k.less h)
  | bk e' => exact fun σ' I' H' F' st w k => q σ' I' H' F' st w (k.less h)
  | ct e' => exact fun σ' I' H' F' st w k => q σ' I' H' F' st w (k.less h)
  | rt s e' => exact fun v σ' I' H' F' Fs st w k => q v σ' I' H' F' Fs st w (k.less h)
  | exc x e' => exact fun cls d σ' I' H' F' st w k => q cls d σ' I' H' F' st w (k.less h)
  | bad => exact q
theorem t_whl {c : FT} {f : RF.Env → SR} {N : Nat} (z : tS G EX kp (fun e => whlL c f N e) D σ H) : tWhile (tT G EX n c) (tS G EX kp f) D σ H := by
  obtain ⟨I, e, F, w, q⟩ := z
  try dsimp only at q
  refine ⟨fun m σ' H' => ∃ e' I' F', Stp false I H F I' H' F' ∧ W G I' H' σ' e' F' ∧ Kept kp σ σ' ∧ PostS G EX kp (whlL c f m e') I H F σ D, ⟨N, e, I, F, Stp.refl _, w, Kept.refl, q⟩, fun m σ1 H1 ⟨e1, I1, F1, st, w1, k, q1⟩ => ?_⟩
  cases m with
  | zero => exact q1.elim
  | succ m =>
    rw [whlL] at q1
    refine (Hld.start w1).test (m := n) (fun x hx => nomatch hx) ?_
    cases zc : c e1 with
    | exc x e' =>
      rw [zc] at q1
      exact fun cls d I' H' F' st2 w2 xr => q1 cls d σ1 I' H' F' ((st.trans st2).less fun z => nomatch z) w2 k xr
    | bad => rw [zc] at q1; exact q1
    | ok b e2 =>
      rw [zc] at q1
      intro I2 H2 F2 h2
      have st2 : Stp false I H F I2 H2 F2 := (st.trans h2.nil.stp).less fun z => nomatch z
      cases b with
      | false => exact q1 σ1 I2 H2 F2 st2 h2.w k
      | true =>
        show ∃ N : L2.St → Hp → Prop, _
        refine ⟨fun σ' H' => ∃ e' I' F', Stp false I H F I' H' F' ∧ W G I' H' σ' e' F' ∧ Kept kp σ σ' ∧ PostS G EX kp (whlL c f m e') I H F σ D, fun σ' H' p => ⟨m, Nat.lt_succ_self _, p⟩, I2, e2, F2, h2.w, ?_⟩
        dsimp only at q1
        cases zf : f e2 with
        | nx e3 => rw [zf] at q1; exact fun σ' I' H' F' st3 w3 k3 => ⟨e3, I', F', (st2.trans st3).less (fun z => nomatch z), w3, k.trans k3, q1⟩
        | ct e3 => rw [zf] at q1; exact fun σ' I' H' F' st3 w3 k3 => ⟨e3, I', F', (st2.trans st3).less (fun z => nomatch z), w3, k.trans k3, q1⟩
        | bk e3 => rw [zf] at q1; exact fun σ' I' H' F' st3 w3 k3 => q1 σ' I' H' F' ((st2.trans st3).less fun z => nomatch z) w3 (k.trans k3)
        | rt s e3 => rw [zf] at q1; exact fun v σ' I' H' F' Fs st3 w3 k3 => q1 v σ' I' H' F' Fs ((st2.trans st3).less fun z => nomatch z) w3 (k.trans k3)
        | exc x e3 => rw [zf] at q1; exact fun cls d σ' I' H' F' st3 w3 k3 => q1 cls d σ' I' H' F' ((st2.trans st3).less fun z => nomatch z) w3 (k.trans k3)
        | bad => rw [zf] at q1; exact q1
theorem t_for {fi : RF.Env → R (EV × List PV)} {tg : T} {f : RF.Env → SR} (hkp : ∀ j, kp j = true → kp' j = true) (htg : ∀ j ∈ tgIx tg, kp' j = false) (hr : ∀ e xy e', fi e = .ok xy e' → ∀ i fs, xy.1 = .pl i fs → fs = [] ∧ kp' i = true)
    (z : tS G EX kp (fun e => SR.of (fi e) fun xy e => forL tg (fun e1 => sameAt e e1 xy.1) f xy.2 e) D σ H) : tFor (tI G EX n fi) (tgR G.K tg) (tS G EX kp' f) D σ H := by
  obtain ⟨I, e, F, w, q⟩ := z
  try dsimp only at q
  refine ⟨I, e, F, w, ?_⟩
  cases zf : fi e with
  | exc x e' => rw [zf] at q; exact Hld.excS q
  | bad => rw [zf] at q; exact q
  | ok xy e1 =>
    rw [zf] at q
    obtain ⟨x, ys⟩ := xy
    intro v I1 H1 Gs F1 J S h1 src hS
    have q0 : PostS G EX kp (forL tg (fun e2 => sameAt e1 e2 x) f ys e1) I H F σ D := q
    have hroot : ∀ i fs, x = .pl i fs → fs = [] ∧ kp' i = true := fun i fs hx => hr _ _ _ zf i fs hx
    have stay : ∀ x' ∈ [x], StayP false x' := fun x' hx => by
      rw [List.mem_singleton.mp hx]
      cases hx2 : x with
      | sl _ => trivial
      | pl i fs => exact .inl (hroot i fs hx2).1
    let Pv : Nat → L2.St → Hp → Prop := fun i σ' H' => ∃ e' I' Gs F', Hld G false I H F σ' [v] [x] e' I' H' Gs F' ∧ Kept kp' σ σ' ∧ sameAt e1 e' x = true ∧
      forL tg (fun e2 => sameAt e1 e2 x) f (ys.drop i) e' = forL tg (fun e2 => sameAt e1 e2 x) f ys e1 ∧ i ≤ ys.length
    have p0 : Pv 0 σ H1 := ⟨e1, I1, Gs, F1, ⟨h1.stp.less (fun z => nomatch z), h1.w, h1.ev, h1.nd, h1.fr⟩, Kept.refl, by
      cases x with
      | sl _ => rfl
      | pl i fs => exact decide_eq_true rfl, by rw [List.drop_zero], Nat.zero_le _⟩
    refine ⟨fun i m0 σ' H' => Pv i σ' H' ∧ m0 = ys.length - i, ⟨_, p0, rfl⟩, fun i m0 σ' H' ⟨⟨e2, I2, Gs2, F2, h2, k2, sa, hfl, hi⟩, hm0⟩ => ?_⟩
    obtain ⟨_, _, _, hv, _⟩ := h2.ev.hd
    have same : valOf e2 x = valOf e1 x := by
      cases x with
      | sl _ => rfl
      | pl i fs =>
        have e2' : getP e2 i fs = getP e1 i fs := of_decide_eq_true sa
        rw [valOf, valOf, e2']
    have hs := hS h2.w hv same
    by_cases hlt : i < ys.length
    · refine .inr ⟨src.go i I2 H' h2.w.ex hs hlt, Pv (i + 1), fun σ3 H3 p => ⟨ys.length - (i + 1), by omega, p, rfl⟩, fun xv H3 hy => ?_⟩
      obtain ⟨I3, p, hp, new, rp⟩ := src.yld i I2 H' xv H3 h2.w.ex hs hlt hy
      have h3 := h2.grow new
      have hdrop : ys.drop i = p :: ys.drop (i + 1) := by
        obtain ⟨hb, he⟩ := List.getElem?_eq_some_iff.mp hp
        rw [List.drop_eq_getElem_cons hb, he]
      rw [hdrop, forL] at hfl
      cases za : asgT tg p e2 with
      | none =>
        rw [za] at hfl
        rw [← hfl] at q0
        exact q0.elim
      | some e3 =>
        rw [za] at hfl
        dsimp only at hfl
        refine t_tg za h3.w rp fun σ3 F3 w3 sub3 hlen hj => ?_
        have k3 : Kept kp' σ' σ3 := ⟨hlen, fun j hjk => hj j fun m => by rw [htg j m] at hjk; cases hjk⟩
        have h4 := h3.mv w3 sub3 fun i fs hm => by
          have hx := List.mem_singleton.mp hm
          exact k3.2 i (hroot i fs hx.symm).2
        refine ⟨I3, e3, F3, w3, ?_⟩
        have kall := k2.trans k3
        have stall : Stp false I H F I3 H3 F3 := h4.nil.stp
        -- the turn's end
        have nxt : ∀ {e4 : RF.Env}, (if sameAt e1 e4 x = true then forL tg (fun e2 => sameAt e1 e2 x) f (ys.drop (i + 1)) e4 else .bad) = forL tg (fun e2 => sameAt e1 e2 x) f ys e1 → ∀ σ' I' H' F', Stp false I3 H3 F3 I' H' F' → W G I' H' σ' e4 F' → Kept kp' σ3 σ' → Pv (i + 1) σ' H' := fun {e4} he σ5 I5 H5 F5 st5 w5 k5 => by
          by_cases ck : sameAt e1 e4 x = true
          · rw [if_pos ck] at he
            obtain ⟨a1, a2, a3, a4⟩ := h4.carry stay st5
            have h5 : Hld G false I H F σ5 [v] [x] e4 I5 H5 _ F5 := ⟨a1.less (fun z => nomatch z), w5, a2.mv (fun i fs hm => by
              have hx := List.mem_singleton.mp hm
              exact k5.2 i (hroot i fs hx.symm).2), nodup_join h4.nd w5.nd a4, a3⟩
            exact ⟨e4, I5, _, F5, h5, kall.trans k5, ck, he, hlt⟩
          · rw [if_neg ck] at he
            rw [← he] at q0
            exact q0.elim
        cases zb : f e3 with
        | nx e4 => rw [zb] at hfl; exact nxt hfl
        | ct e4 => rw [zb] at hfl; exact nxt hfl
        | bk e4 =>
          rw [zb] at hfl
          rw [← hfl] at q0
          exact fun σ' I' H' F' st5 w5 k5 => q0 σ' I' H' F' ((stall.trans st5).less fun z => nomatch z) w5 ((kall.trans k5).less hkp)
        | rt s e4 =>
          rw [zb] at hfl
          rw [← hfl] at q0
          exact fun v σ' I' H' F' Fs st5 w5 k5 => q0 v σ' I' H' F' Fs ((stall.trans st5).less fun z => nomatch z) w5 ((kall.trans k5).less hkp)
        | exc x e4 =>
          rw [zb] at hfl
          rw [← hfl] at q0
          exact fun cls d σ' I' H' F' st5 w5 k5 => q0 cls d σ' I' H' F' ((stall.trans st5).less fun z => nomatch z) w5 ((kall.trans k5).less hkp)
        | bad =>
          rw [zb] at hfl
          rw [← hfl] at q0
          exact q0
    · have hi2 : i = ys.length := by omega
      subst hi2
      refine .inl ⟨src.stop I2 H' h2.w.ex hs, ?_⟩
      rw [List.drop_length, forL] at hfl
      rw [← hfl] at q0
      exact q0 σ' I2 H' F2 h2.nil.stp h2.w (k2.less hkp)
theorem SRepF.put {y : V} {sy : Slot} {Fy : List Addr} (f : Nat) : ∀ {fs : List (Str × V)} {gs : List (Nat × Slot)} {F : List Addr}, SRepF G I H fs gs F → SRep G I H y sy Fy → ∃ A B, SRepF G I H (putF (G.an f) y fs) (putA f sy gs) (A ++ Fy ++ B) ∧ (A ++ B).Sublist F
  | _, _, _, .nil, hy => ⟨[], [], by simpa [putF, putA] using SRepF.cons (n := f) hy .nil, List.Sublist.refl _⟩
  | _, _, _, @SRepF.cons _ _ _ k v x fs gs F1 F2 h r, hy => by
    rw [putF, putA]
    by_cases e : k = f
    · subst e
      rw [if_pos rfl, if_pos rfl]
      exact ⟨[], F2, by simpa using SRepF.cons hy r, by simp⟩
    · rw [if_neg fun q => e (G.inj _ _ q), if_neg e]
      obtain ⟨A, B, h1, h2⟩ := r.put f hy
      refine ⟨F1 ++ A, B, ?_, ?_⟩
      · have := SRepF.cons (n := k) h h1
        simpa [List.append_assoc] using this
      · rw [List.append_assoc]
        exact List.Sublist.append (List.Sublist.refl _) h2
theorem SRepF.len : ∀ {fs : List (Str × V)} {gs : List (Nat × Slot)} {F : List Addr}, SRepF G I H fs gs F → fs.length = gs.length
  | _, _, _, .nil => rfl
  | _, _, _, .cons _ r => congrArg Nat.succ r.len
theorem att_put {c f : Nat} {s : Slot} (hf : G.att c f = true) : ∀ {gs : List (Nat × Slot)}, (gs.all fun p => G.att c p.1) = true → ((putA f s gs).all fun p => G.att c p.1) = true
  | [], _ => by simp [putA, hf]
  | (k, x) :: r, h => by
    rw [List.all_cons, Bool.and_eq_true] at h
    rw [putA]
    split
    · rw [List.all_cons, Bool.and_eq_true]
      exact ⟨h.1, h.2⟩
    · rw [List.all_cons, Bool.and_eq_true]
      exact ⟨h.1, att_put hf h.2⟩
theorem t_fset {g : RF.Gl} {fv : FE} {i f : Nat} {r : List Nat} (hb : ∀ f ∈ r, f < ixB) (hA : AttF G) (ha : ∀ c f, g.att c f = true → G.att c f = true) (z : tS G EX kp (fun e => SR.of (fv e) (kFset g i r.reverse f)) D σ H) : sFld G.K (tPl G i r) (tE G EX n fv) (G.an f) D σ H := by
  obtain ⟨I, e, F, w, q⟩ := z
  refine s_ex w q fun {v x e1 I1 H1 Gs F1} h q => ?_
  unfold kFset at q
  cases x with
  | pl _ _ => exact q.elim
  | sl s =>
    cases zg : getP e1 i r.reverse with
    | none => rw [zg] at q; exact q.elim
    | some t =>
      rw [zg] at q
      cases t with
      | oins c gs =>
        dsimp only at q
        by_cases cc : (live s && g.att c f && decide (gs.length < 500)) = true
        · rw [if_pos cc] at q
          simp only [Bool.and_eq_true] at cc
          obtain ⟨⟨c1, c2⟩, c3⟩ := cc
          have hatt := ha c f c2
          obtain ⟨u, A, Ft, B, pth, hs, hF, put⟩ := h.write zg rfl (by simp)
          obtain ⟨C1, C2, rfl, hv, r0⟩ := h.ev.hd
          cases r0
          cases hv with
          | sl hv =>
          cases hs with
          | @oins a dx _ fs _ Fi hh ht hr =>
            obtain ⟨k1, k2⟩ := hA c f hatt
            refine pl_go hA hb pth ⟨a, G.cl c, dx, fs, rfl, hh, k1, k2, ?_, ?_⟩
            · rw [hr.len]
              have := of_decide_eq_true c3
              omega
            · have nd1 := h.w.nd
              rw [hF] at nd1
              have ndT : (a :: Fi).Nodup := (List.nodup_append.mp (List.nodup_append.mp nd1).1).2.1
              have aV : a ∉ C1 := fun q => by
                refine (List.nodup_append.mp h.nd).2.2 a (List.mem_append_left _ q) a ?_ rfl
                rw [hF]; simp
              have aF := (List.nodup_cons.mp ndT).1
              have stepF : ∀ b ∈ Fi, upd H1 a (.ins (G.cl c) dx (putF (G.an f) v fs)) b = H1 b := fun b hb => upd_ne fun q => aF (q ▸ hb)
              have stepV : ∀ b ∈ C1, upd H1 a (.ins (G.cl c) dx (putF (G.an f) v fs)) b = H1 b := fun b hb => upd_ne fun q => aV (q ▸ hb)
              obtain ⟨P1, P2, hp, hsub⟩ := (hr.step (Ex.refl _) stepF).put f (hv.step (Ex.refl _) stepV)
              have disj : ∀ b ∈ C1, b ∉ a :: Fi := fun b hb hf => by
                refine (List.nodup_append.mp h.nd).2.2 b (List.mem_append_left _ hb) b ?_ rfl
                rw [hF]; simp only [List.mem_append]; exact .inl (.inr hf)
              have ndC : C1.Nodup := (List.nodup_append.mp (List.nodup_append.mp h.nd).1).1
              have ndP : (P1 ++ C1 ++ P2).Nodup := by
                have n2 : (C1 ++ (P1 ++ P2)).Nodup := List.nodup_append.mpr ⟨ndC, (List.nodup_cons.mp ndT).2.sublist hsub, fun b hb c hc q => disj b hb (List.mem_cons_of_mem _ (hsub.subset (q ▸ hc)))⟩
                have pm : (C1 ++ (P1 ++ P2)).Perm (P1 ++ C1 ++ P2) := by
                  rw [← List.append_assoc]
                  exact List.Perm.append_right P2 List.perm_append_comm
                exact pm.nodup_iff.mp n2
              have memP : ∀ b ∈ P1 ++ C1 ++ P2, b ∈ Fi ∨ b ∈ C1 := fun b hb => by
                simp only [List.mem_append] at hb
                rcases hb with (q | q) | q
                · exact .inl (hsub.subset (by simp [q]))
                · exact .inr q
                · exact .inl (hsub.subset (by simp [q]))
              obtain ⟨st, w'⟩ := put a (.ins (G.cl c) dx (putF (G.an f) v fs)) (.oins c (putA f s gs)) (a :: (P1 ++ C1 ++ P2)) (by simp) (.oins upd_same (att_put hatt ht) hp)
                (List.nodup_cons.mpr ⟨fun m => (memP a m).elim aF aV, ndP⟩) (fun b hb => by
                  rcases List.mem_cons.mp hb with rfl | hb
                  · exact .inl List.mem_cons_self
                  · exact (memP b hb).imp (List.mem_cons_of_mem _) fun q => List.mem_append_left _ q)
              exact q σ I1 _ _ st w' Kept.refl
        · rw [if_neg cc] at q; exact q.elim
      | _ => exact q.elim
theorem Hld.wlistS (h : Hld G n I H F σ [] [] e1 I1 H1 [] F1) {i : Nat} {fs : List Nat} {ys : List PV} (g : getP e1 i fs = some (.olst ys)) :
    ∃ a ws, PathV G H1 σ i fs (.ref a) ∧ H1 a = some (.lst ws) ∧ RepL G I1 ws ys ∧ ∀ {ws' : List V} {ys' : List PV}, RepL G I1 ws' ys' → ∃ F', Stp false I H F I1 (upd H1 a (.lst ws')) F' ∧ W G I1 (upd H1 a (.lst ws')) σ (setP e1 i fs (.olst ys')) F' := by
  obtain ⟨u, A, Ft, B, p, hs, hF, put⟩ := h.write g rfl (by simp)
  cases hs with
  | @olst a ws _ hh rr =>
    refine ⟨a, ws, p, hh, rr, fun {ws' ys'} r => ?_⟩
    exact ⟨_, put a (.lst ws') (.olst ys') [a] (by simp) (.olst upd_same r) (by simp) (fun b hb => .inl hb)⟩
theorem Hld.wdicS (h : Hld G n I H F σ [] [] e1 I1 H1 [] F1) {i : Nat} {fs : List Nat} {kvs : List (PV × PV)} (g : getP e1 i fs = some (.odic kvs)) :
    ∃ a d, PathV G H1 σ i fs (.ref a) ∧ H1 a = some d ∧ RepK G I1 a d kvs ∧ ∀ {d' : HO} {kvs' : List (PV × PV)}, RepK G I1 a d' kvs' → ∃ F', Stp false I H F I1 (upd H1 a d') F' ∧ W G I1 (upd H1 a d') σ (setP e1 i fs (.odic kvs')) F' := by
  obtain ⟨u, A, Ft, B, p, hs, hF, put⟩ := h.write g rfl (by simp)
  cases hs with
  | @odic a d _ hh rr =>
    refine ⟨a, d, p, hh, rr, fun {d' kvs'} r => ?_⟩
    exact ⟨_, put a d' (.odic kvs') [a] (by simp) (.odic upd_same r) (by simp) (fun b hb => .inl hb)⟩
theorem fits_got {o : Option Slot} (h : fitsI o = true) : ∃ s, o = some s ∧ s ≠ .dead := by
  cases o with
  | none => cases h
  | some s => exact ⟨s, rfl, fun e => by rw [e] at h; cases h⟩
def rSetX (K : PySem.W.Frag) (w : World) : TSet := fun o i v H Q => rSetL o i v H Q ∨ rSetD K w o i v H Q
theorem fits_lst {o : Option Slot} (h : fits .append o = true) : ∃ ys, o = some (.olst ys) := by
  cases o with
  | none => cases h
  | some s => cases s <;> first | exact ⟨_, rfl⟩ | cases h
theorem t_iset {fv fk : FE} {i : Nat} {r : List Nat} (hb : ∀ f ∈ r, f < ixB) (hA : AttF G) (hs : r = [] ∨ m = true) (hf : Roots fv ∨ m = true) (z : tS G EX kp (fun e => SR.of (fv e) fun v e => if fitsI (getP e i r.reverse) then SR.of (fk e) (kIset i r.reverse v) else .bad) D σ H) :
    tAsg (tE G EX n fv) (gSub (tPl G i r) (tE G EX m fk) (rSetX G.K G.w)) D σ H := by
  obtain ⟨I, e, F, w, q⟩ := z
  try dsimp only at q
  refine (Hld.start w).eval (m := n) (fun x hx => nomatch hx) ?_
  cases zv : fv e with
  | exc x e' => rw [zv] at q; exact Hld.excS q
  | bad => rw [zv] at q; exact q
  | ok x e1 =>
    rw [zv] at q
    have q1 : PostS G EX kp (if fitsI (getP e1 i r.reverse) then SR.of (fk e1) (kIset i r.reverse x) else .bad) I H F σ D := q
    by_cases c : fitsI (getP e1 i r.reverse) = true
    · rw [if_pos c] at q1
      obtain ⟨ys, hys, hnd⟩ := fits_got c
      intro v I1 H1 Gs F1 h1
      have q2 := q1.shift (h1.stp.less fun z => nomatch z) Kept.refl
      have hb1 : Hld G true I1 H1 (Gs ++ F1) σ [v] [x] e1 I1 H1 Gs F1 := ⟨Stp.refl _, h1.w, h1.ev, h1.nd, h1.fr⟩
      obtain ⟨u, A, Ft, B, pth, hsu, _⟩ := h1.w.get hys hnd
      refine pl_go hA hb pth ?_
      refine hb1.eval (m := m) (fun x' hx => ?_) ?_
      · rw [List.mem_singleton.mp hx]
        cases x with
        | sl s => trivial
        | pl i fs => exact hf.imp (fun r => r _ _ _ _ zv) id
      · cases zk : fk e1 with
        | exc y e' => rw [zk] at q2; exact Hld.excS q2
        | bad => rw [zk] at q2; exact q2
        | ok y e2 =>
          rw [zk] at q2
          have q3 : PostS G EX kp (kIset i r.reverse x y e2) I1 H1 (Gs ++ F1) σ D := q2
          intro w2 I2 H2 Gs2 F2 h2
          have pth2 : PathV G H2 σ i r.reverse u := pth.keep (by
            rcases hs with rfl | hm
            · exact .inl rfl
            · exact .inr (h2.stp.keep (by rw [hm]; rfl)))
          unfold kIset at q3
          cases z1 : upOf e2 x with
          | none => rw [z1] at q3; exact q3.elim
          | some py =>
            cases z2 : valOf e2 y with
            | none => rw [z1, z2] at q3; exact q3.elim
            | some pk =>
              rw [z1, z2] at q3
              cases z3 : getP e2 i r.reverse with
              | none => rw [z3] at q3; cases pk <;> exact q3.elim
              | some t =>
                rw [z3] at q3
                cases t with
                | olst zs =>
                  cases pk with
                  | int kk =>
                    dsimp only at q3
                    cases z4 : L2.ixN zs.length kk with
                    | none => rw [z4] at q3; exact q3.elim
                    | some j =>
                      rw [z4] at q3
                      obtain ⟨_, _, _, _, hr⟩ := h2.ev.hd
                      obtain ⟨_, _, _, hk, _⟩ := hr.hd
                      have ek := (hk.b h2.w z2).to_int
                      obtain ⟨Gs3, h3⟩ := h2.first
                      obtain ⟨I3, h4, rl⟩ := h3.up (ps := [py]) (by simp [upsOf, z1])
                      obtain ⟨v', e0, rv⟩ := rl.one
                      cases e0
                      obtain ⟨a, ws, pp, hh, rr, fin⟩ := h4.wlistS z3
                      obtain ⟨F', st, w'⟩ := fin (rr.set j rv)
                      rw [pth2.det pp]
                      exact .inl ⟨a, ws, kk, j, rfl, ek, hh, by rw [rr.length]; exact z4, q3 σ I3 _ F' st w' Kept.refl⟩
                  | _ => exact q3.elim
                | odic kvs =>
                  have q4 : PostS G EX kp (if (dKeyOk kvs pk && decide (kvs.length < lim)) = true then .nx (setP e2 i r.reverse (.odic (dPut kvs pk py))) else .bad) I1 H1 (Gs ++ F1) σ D := by cases pk <;> exact q3
                  by_cases c3 : (dKeyOk kvs pk && decide (kvs.length < lim)) = true
                  · rw [if_pos c3] at q4
                    rw [Bool.and_eq_true] at c3
                    obtain ⟨_, _, _, _, hr⟩ := h2.ev.hd
                    obtain ⟨_, _, _, hk, _⟩ := hr.hd
                    have bk := hk.b h2.w z2
                    obtain ⟨Gs3, h3⟩ := h2.first
                    obtain ⟨I3, ex3, h4, rl⟩ := h3.upx (ps := [py]) (by simp [upsOf, z1])
                    obtain ⟨v', e0, rv⟩ := rl.one
                    cases e0
                    obtain ⟨a, d, pp, hh, rr, fin⟩ := h4.wdicS z3
                    rw [pth2.det pp]
                    refine .inr ⟨a, rfl, put_of h4.w.ex hh rr c3.1 (Nat.lt_of_lt_of_le (of_decide_eq_true c3.2) lim_le) (.imm ((bk.key c3.1).mono ex3)) rv fun d' r' => ?_⟩
                    obtain ⟨F', st, w'⟩ := fin r'
                    exact q4 σ I3 _ F' st w' Kept.refl
                  · rw [if_neg c3] at q4; exact q4.elim
                | _ => cases pk <;> exact q3.elim
    · rw [if_neg c] at q1; exact q1.elim
end
end RF
set_option maxHeartbeats 1000000
namespace RF
open PySem PySem.Spec PyProof.Rows L2 Evl
section
variable {G : Gr} {EX : WX} {n m l nc k : Bool} {I I1 I' H H1 H' : Hp} {F F1 F' Fs Fx Gs : List Addr} {σ σ' σ1 : L2.St} {e e1 e' : RF.Env} {v u : V} {x y : EV} {vs : List V} {xs : List EV} {s : Slot} {ps ys : List PV} {Q : VK}
theorem PostE.shift {r : R EV} (q : PostE G EX false r I H F σ Q) (st : Stp false I H F I1 H1 F1) : PostE G EX false r I1 H1 F1 σ Q := by
  cases r with
  | ok x e' => exact fun v I' H' F' Fs st2 => q v I' H' F' Fs ((st.trans st2).less fun z => nomatch z)
  | exc x e' => exact fun cls d I' H' F' st2 => q cls d I' H' F' ((st.trans st2).less fun z => nomatch z)
  | bad => exact q
theorem SRepL.length : ∀ {vs : List V} {ss : List Slot} {F : List Addr}, SRepL G I H vs ss F → vs.length = ss.length
  | _, _, _, .nil => rfl
  | _, _, _, .cons _ r => congrArg Nat.succ r.length
theorem EvRs.owns : ∀ {vs : List V} {xs : List EV} {F : List Addr} {ss : List Slot}, EvRs G I H σ vs xs F → ownsOf xs = some ss → SRepL G I H vs ss F
  | _, _, _, _, .nil, q => by cases q; exact .nil
  | _, _, _, _, @EvRs.cons _ _ _ _ v x vs xs F1 F2 h r, q => by
    cases h with
    | sl h =>
      rw [ownsOf] at q
      cases z : ownsOf xs with
      | none => rw [z] at q; cases q
      | some ss =>
        rw [z] at q
        dsimp only at q
        split at q
        · cases q; exact .cons h (r.owns z)
        · cases q
    | pl h => cases q
theorem t_lol {f : FA} (z : tE G EX nc (fun e => (f e).bind kLol) σ H Q) : tLst (tA G EX nc f) σ H Q := by
  refine t_args (t' := fun vs H1 Q => vs.length ≤ sizeLine ∧ ∀ p, H1 p = none → Q (.ref p) (upd H1 p (.lst vs))) (fun {I H F I1 H1 F1 Fs vs xs e1 Q} h q => ?_) z
  unfold kLol at q
  cases z : ownsOf xs with
  | none => rw [z] at q; exact q.elim
  | some ss =>
    rw [z] at q
    dsimp only at q
    by_cases c : ss.length ≤ lim
    · rw [if_pos c] at q
      have r := h.ev.owns z
      refine ⟨by rw [r.length]; exact Nat.le_trans c lim_le, fun p hp => ?_⟩
      have there : ∀ b ∈ Fs ++ F1, ∃ o, H1 b = some o := fun b hb => (List.mem_append.mp hb).elim (fun m => h.ev.there b m) (fun m => h.w.env.there b m)
      have ne : ∀ b ∈ Fs ++ F1, b ≠ p := fun b hb => by
        obtain ⟨o, ho⟩ := there b hb
        exact ne_of_none ho hp
      have st : Stp nc I H F I1 (upd H1 p (.lst vs)) ((p :: Fs) ++ F1) := by
        refine ⟨h.stp.ex, fun b o hb hf => ?_, fun b o hb => ?_, fun b hb => ?_, fun q b o hb => ?_⟩
        · obtain ⟨k1, k2⟩ := h.stp.old b o hb hf
          exact ⟨by rw [upd_ne (ne_of_none k1 hp)]; exact k1, k2⟩
        · obtain ⟨o', ho'⟩ := h.stp.dom b o hb
          exact ⟨o', by rw [upd_ne (ne_of_none ho' hp)]; exact ho'⟩
        · rcases List.mem_cons.mp hb with rfl | hb
          · refine .inr ?_
            cases z : H b with
            | none => rfl
            | some o =>
              obtain ⟨o', ho'⟩ := h.stp.dom b o z
              rw [hp] at ho'; cases ho'
          · exact h.stp.own b hb
        · have := h.stp.keep q b o hb
          rw [upd_ne (ne_of_none this hp)]
          exact this
      refine q (.ref p) I1 _ F1 (p :: Fs) st (h.w.step (Ex.refl _) (fun b o hb => ?_) (fun b hb => upd_ne (ne b (List.mem_append_right _ hb))) fun b hb => h.w.fr b hb) (.sl (.own upd_same (r.step (Ex.refl _) fun b hb => upd_ne (ne b (List.mem_append_left _ hb))))) ?_ fun b hb => ?_
      · have := h.w.ex b o hb
        rw [upd_ne (ne_of_none this hp)]
        exact this
      · rw [List.cons_append]
        exact List.nodup_cons.mpr ⟨fun m => ne p m rfl, h.nd⟩
      · rcases List.mem_cons.mp hb with rfl | hb
        · exact in_none h.w.ex hp
        · exact h.fr b hb
    · rw [if_neg c] at q; exact q.elim
theorem own_got {o : Option Slot} (h : isOwn o = true) : ∃ ss, o = some (.own ss) := by
  cases o with
  | none => cases h
  | some s => cases s <;> first | exact ⟨_, rfl⟩ | cases h
theorem plxO_some {o : Option Slot} {q : Option PV} {j : Nat} (h : plxO o q = some j) : ∃ ss z i s, o = some (.own ss) ∧ q = some (.int z) ∧ L2.ixN ss.length z = some i ∧ ss[i]? = some s ∧ j = ixB + i := by
  unfold plxO at h
  split at h
  · rename_i ss z
    split at h
    · rename_i i hi
      split at h
      · rename_i s hs
        cases h
        exact ⟨ss, z, i, s, rfl, rfl, hi, hs, rfl⟩
      · cases h
    · cases h
  · cases h
theorem t_item {i : Nat} {fk : FE} {QI : VK} (w : W G I H σ e F) (c : isOwn (getP e i []) = true)
    (q : match fk e with
      | .ok y e1 => ∀ u I1 H1 F1, Stp m I H F I1 H1 F1 → W G I1 H1 σ e1 F1 → (∃ j s Ft, plxO (getP e1 i []) (valOf e1 y) = some j ∧ PathV G H1 σ i [j] u ∧ getP e1 i [j] = some s ∧ SRep G I1 H1 u s Ft) → QI u H1
      | .exc x e' => ∀ cls d I' H' F', Stp false I H F I' H' F' → W G I' H' σ e' F' → XRep G I' H' cls d x → EX cls d σ H'
      | .bad => False) (bad : ∀ y e1, fk e = .ok y e1 → ∃ j, plxO (getP e1 i []) (valOf e1 y) = some j) : tOp (rIxL G.K) (tVar i) (tE G EX m fk) σ H QI := by
  obtain ⟨ss, hss⟩ := own_got c
  obtain ⟨u, A, Ft, B, ⟨v, hv, p⟩, _, _⟩ := w.get hss (by simp)
  cases p
  refine ⟨_, hv, (Hld.start w).eval (m := m) (fun x hx => nomatch hx) ?_⟩
  cases zk : fk e with
  | exc x e' => rw [zk] at q; exact q
  | bad => rw [zk] at q; exact q
  | ok y e1 =>
    rw [zk] at q
    obtain ⟨j, hj⟩ := bad y e1 zk
    intro vy I1 H1 Gs F1 h1
    obtain ⟨ss1, z, jj, s, g1, g2, g3, g4, rfl⟩ := plxO_some hj
    obtain ⟨_, _, _, hy, _⟩ := h1.ev.hd
    have ey := (hy.b h1.w g2).to_int
    obtain ⟨u1, A1, Ft1, B1, ⟨v1, hv1, p1⟩, hs1, _⟩ := h1.w.get g1 (by simp)
    rw [hv] at hv1
    cases hv1
    cases p1
    cases hs1 with
    | @own a ws _ F' hh rr =>
      obtain ⟨x1, A2, Fx, B2, hx, hxs, _, _⟩ := rr.look g4
      refine ⟨a, ws, z, x1, rfl, ey, sq_of hh, ?_, ?_⟩
      · unfold L2.atI
        rw [rr.length, g3]
        exact hx
      · have hn := h1.nil
        refine q x1 I1 H1 F1 hn.stp h1.w ⟨ixB + jj, s, Fx, hj, ⟨_, hv, .ix hh (Nat.le_add_right _ _) (by simpa using hx) .nil⟩, ?_, hxs⟩
        obtain ⟨s0, k1, k2⟩ := getP_some g1
        have k3 : s0 = .own ss1 := by cases s0 <;> exact Option.some.inj k2
        subst k3
        unfold getP
        rw [k1]
        show getS (.own ss1) [ixB + jj] = some s
        rw [getS, if_pos (Nat.le_add_right _ _)]
        have : ixB + jj - ixB = jj := by omega
        rw [this, g4]
        cases s <;> rfl
theorem t_plx {i : Nat} {fk : FE} (z : tE G EX m (fun e => if isOwn (getP e i []) then (fk e).bind (kPlx i []) else .bad) σ H Q) : tOp (rIxL G.K) (tVar i) (tE G EX m fk) σ H Q := by
  obtain ⟨I, e, F, w, q⟩ := z
  dsimp only at q
  by_cases c : isOwn (getP e i []) = true
  · rw [if_pos c] at q
    refine t_item w c ?_ fun y e1 zk => ?_
    · cases zk : fk e with
      | exc x e' => rw [zk] at q; exact q
      | bad => rw [zk] at q; exact q
      | ok y e1 =>
        rw [zk] at q
        intro u I1 H1 F1 st w1 ⟨j, s, Ft, hj, pth, _, _⟩
        have q' : PostE G EX m (kPlx i [] y e1) I H F σ Q := q
        unfold kPlx at q'
        rw [hj] at q'
        exact q' u I1 H1 F1 [] st w1 (.pl pth) w1.nd fun a z => nomatch z
    · rw [zk] at q
      have q' : PostE G EX m (kPlx i [] y e1) I H F σ Q := q
      unfold kPlx at q'
      cases hj : plxO (getP e1 i []) (valOf e1 y) with
      | none => rw [hj] at q'; exact q'.elim
      | some j => exact ⟨j, rfl⟩
  · rw [if_neg c] at q; exact q.elim
theorem t_mux {i : Nat} {fk : FE} {fa : FA} {mt : Mut} (z : tE G EX false (fun e => if isOwn (getP e i []) then (fk e).bind fun w e => match plxO (getP e i []) (valOf e w) with
      | some j => if fits mt (getP e i ([] ++ [j])) then (fa e).bind (kMut mt i ([] ++ [j])) else .bad
      | none => .bad else .bad) σ H Q) :
    tOp (rIxL G.K) (tVar i) (tE G EX m fk) σ H fun x H1 => tyV G.K "list" x H1 ∧ tA G EX true fa σ H1 fun xs H2 => rM G.K mt x xs H2 Q := by
  have hfit : ∀ {o : Option Slot}, fits mt o = true → ∃ ys, o = some (.olst ys) := fun {o} hf => by
    cases o with
    | none => cases mt <;> cases hf
    | some s => cases mt <;> cases s <;> first | exact ⟨_, rfl⟩ | cases hf
  obtain ⟨I, e, F, w, q⟩ := z
  dsimp only at q
  by_cases c : isOwn (getP e i []) = true
  · rw [if_pos c] at q
    refine t_item w c ?_ fun y e1 zk => ?_
    · cases zk : fk e with
      | exc x e' => rw [zk] at q; exact q
      | bad => rw [zk] at q; exact q
      | ok y e1 =>
        rw [zk] at q
        intro u I1 H1 F1 st w1 ⟨j, s, Ft, hj, pth, hg, hs⟩
        have q' : PostE G EX false (match plxO (getP e1 i []) (valOf e1 y) with
          | some j => if fits mt (getP e1 i ([] ++ [j])) then (fa e1).bind (kMut mt i ([] ++ [j])) else .bad
          | none => .bad) I H F σ Q := q
        rw [hj] at q'
        have q2 : PostE G EX false (if fits mt (getP e1 i [j]) then (fa e1).bind (kMut mt i [j]) else .bad) I H F σ Q := q'
        by_cases cf : fits mt (getP e1 i [j]) = true
        · rw [if_pos cf] at q2
          obtain ⟨ys, hys⟩ := hfit cf
          rw [hg] at hys
          cases hys
          refine ⟨?_, ?_⟩
          · cases hs with
            | olst hh rr => exact .inl ⟨rfl, _, sq_of hh⟩
          · have q3 := q2.shift (st.less fun z => nomatch z)
            have hb : Hld G true I1 H1 F1 σ [] [] e1 I1 H1 [] F1 := Hld.start w1
            refine hb.evals (m := true) (fun x hx => nomatch hx) ?_
            cases za : fa e1 with
            | exc x e' => rw [za] at q3; exact q3
            | bad => rw [za] at q3; exact q3
            | ok xs e2 =>
              rw [za] at q3
              intro vs I2 H2 Gs2 F2 h2 _
              exact h2.mut (pth.keep (.inr (h2.stp.keep rfl))) q3
        · rw [if_neg cf] at q2; exact q2.elim
    · rw [zk] at q
      have q' : PostE G EX false (match plxO (getP e1 i []) (valOf e1 y) with
          | some j => if fits mt (getP e1 i ([] ++ [j])) then (fa e1).bind (kMut mt i ([] ++ [j])) else .bad
          | none => .bad) I H F σ Q := q
      cases hj : plxO (getP e1 i []) (valOf e1 y) with
      | none => rw [hj] at q'; exact q'.elim
      | some j => exact ⟨j, rfl⟩
  · rw [if_neg c] at q; exact q.elim
end
end RF
set_option maxHeartbeats 1000000
namespace RF
open PySem L2
inductive Md where
  | opd | val | ret | tst | itr | itrT
structure PTab where
  fn : List (Str × Nat)
  cl : List (Str × Nat)
  mks : List Nat
  an : List (Str × Nat)
  mn : List (Str × Nat)
  cs : List Nat
  gl : List (Str × PV)
  xd : List Nat := []
  xs : List Nat := []
  iq : List Str := []
structure CC where
  N : List Str
  sc : Scope
  calm : Bool
  xn : List Str := []
  lls : List Str := []
def isLL (es : List Expr) : Bool := !es.isEmpty && es.all fun e => match e with
  | .List [] _ => true
  | _ => false
def ownNm : Stmt → Option Str
  | .Assign [.Name x _] (.List es _) _ => if isLL es then some x else none
  | _ => none
def itm : Expr → Md
  | .Tuple _ _ _ => .itrT
  | _ => .itr
def ixOf (x : Str) : List Str → Option Nat
  | [] => none
  | y :: r => if y = x then some 0 else (ixOf x r).map (· + 1)
theorem ixOf_get {x : Str} : ∀ {N : List Str} {i : Nat}, ixOf x N = some i → N[i]? = some x
  | [], _, h => by cases h
  | y :: r, i, h => by
    rw [ixOf] at h
    split at h
    · rename_i e
      cases h
      simp [e]
    · cases z : ixOf x r with
      | none => rw [z] at h; cases h
      | some j =>
        rw [z] at h
        cases h
        simpa using ixOf_get z
def visK : Option NameKind → Bool
  | some .local => true
  | some .cell => true
  | some .free => true
  | _ => false
def okName (x : Str) : Bool := !(x == ("__debug__" : Str)) && !(x == ("__classdict__" : Str))
def vIx (C : CC) (x : Str) : Option Nat := if visK (C.sc.names.lookup x) && okName x then ixOf x C.N else none
def isGl (C : CC) (x : Str) : Bool := match C.sc.names.lookup x with
  | some .globalImplicit => !(x == ("__debug__" : Str))
  | _ => false
def cPl (P : PTab) (C : CC) : Nat → Expr → Option (Nat × List Nat)
  | 0, _ => none
  | _ + 1, .Name x _ => (vIx C x).map (·, [])
  | n + 1, .Attribute o f _ => match cPl P C n o, P.an.lookup f with
    | some (i, r), some k => if notCall o && decide (k < ixB) then some (i, k :: r) else none
    | _, _ => none
  | _ + 1, _ => none
def rtT : T → Bool
  | .plc _ (_ :: _) => false
  | .plx _ _ _ => false
  | _ => true
def ncT : T → Bool
  | .fld a _ => ncT a
  | .op1 _ a => ncT a
  | .op2 _ a b => ncT a && ncT b
  | .chn _ _ a b c => ncT a && ncT b && ncT c
  | .lix a b => ncT a && ncT b
  | .tix a b => ncT a && ncT b
  | .slc a lo hi => ncT a && ncT lo && ncT hi
  | .prt a => ncT a
  | .andV a b => ncT a && ncT b
  | .orV a b => ncT a && ncT b
  | .ife t a b => ncT t && ncT a && ncT b
  | .tup as => ncT as
  | .lst as => ncT as
  | .cons a r => ncT a && ncT r
  | .call _ _ => false
  | .mak _ _ => false
  | .mth _ _ _ => false
  | .ieq _ _ _ => false
  | .mut _ _ _ _ => false
  | .lc _ it _ cs el => ncT it && (ncT cs && ncT el)
  | .lol as => ncT as
  | .plx _ _ k => ncT k
  | .mux _ _ _ _ _ => false
  | .dlc _ it _ cs ke ve => ncT it && (ncT cs && (ncT ke && ncT ve))
  | .lrng as => ncT as
  | .trng as => ncT as
  | .tru a => ncT a
  | .bol a => ncT a
  | .notT t => ncT t
  | .andT a b => ncT a && ncT b
  | .orT a b => ncT a && ncT b
  | .isq a => ncT a
  | .irng as => ncT as
  | .irn3 as => ncT as
  | .ien a => ncT a
  | _ => true
def conP : Const → Option PV
  | .none => some .non
  | .bool b => some (.bl b)
  | .int i => some (.int i)
  | .str x => some (.str x)
  | _ => none
def binP : Operator → Option P2
  | .Add => some .add
  | .Sub => some .sub
  | .Mult => some .mul
  | .Mod => some .mod
  | .FloorDiv => some .fdiv
  | _ => none
def cmpP : CmpOp → Option P2
  | .Eq => some .eq
  | .NotEq => some .ne
  | .Lt => some .lt
  | .LtE => some .le
  | .Gt => some .gt
  | .GtE => some .ge
  | .In => some .isIn
  | .NotIn => some .notIn
  | _ => none
def isNoneE : Expr → Bool
  | .Constant .none _ _ => true
  | _ => false
def nilE : Expr → Bool
  | .Slice _ _ _ _ => false
  | _ => true
def listT : List T → T
  | [] => .nil
  | a :: r => .cons a (listT r)
def consT (a r : T) : Option T := if rtT a || ncT r then some (.cons a r) else none
def argsT : List T → Option T
  | [] => some .nil
  | a :: r => match argsT r with
    | some r => consT a r
    | none => none
def tyP (x : Str) : Option Ty :=
  if x = "int" then some .int else if x = "bool" then some .bool else if x = "str" then some .str else if x = "tuple" then some .tuple else if x = "list" then some .list else if x = "dict" then some .dict else none
def b1P (x : Str) : Option P1 :=
  if x = "len" then some .len else if x = "tuple" then some .tupleOf else if x = "list" then some .listOf else if x = "sorted" then some .sorted else if x = "sum" then some .sum
  else if x = "all" then some .all else if x = "any" then some .any else if x = "int" then some .intOf else none
def b2P (x : Str) : Option P2 := if x = "min" then some .min else if x = "max" then some .max else none
def opt (o : Option T) : T := match o with
  | some t => t
  | none => .nop
def isRange (C : CC) : Expr → Option (List Expr)
  | .Call (.Name x _) [a] [] _ => if x = "range" && isGl C x && plainE a then some [a] else none
  | .Call (.Name x _) [a, b] [] _ => if x = "range" && isGl C x && plainE a && plainE b then some [a, b] else none
  | _ => none
def isRange3 (C : CC) : Expr → Option (List Expr)
  | .Call (.Name x _) [a, b, c] [] _ => if x = "range" && isGl C x && plainE a && plainE b && plainE c then some [a, b, c] else none
  | _ => none
def ownN (C : CC) (scope : Scope) : List (Str × Nat) := scope.names.filterMap fun y => match y.2 with
  | .local => (ixOf y.1 C.N).map (y.1, ·)
  | .cell => (ixOf y.1 C.N).map (y.1, ·)
  | _ => none
def blkSc (scope sc : Scope) : Scope := { scope with names := scope.names.map fun (n, k) => if (k == .free && sc.kind == .function && sc.names.lookup n == some .cell) then (n, .cell) else (n, k) }
def stoK (C : CC) (scope : Scope) (x : Str) : Bool := match C.sc.names.lookup x with
  | some .local => true
  | some .cell => scope.names.lookup x == some .cell
  | _ => false
def cTg (C : CC) (scope : Scope) : Nat → Expr → T
  | 0, _ => .nop
  | _ + 1, .Name x _ => if stoK C scope x then opt ((ixOf x C.N).map .tnm) else .nop
  | n + 1, .Tuple es _ _ => if C.calm && plainEs es then .ttp (listT (es.map (cTg C scope n))) else .nop
  | _ + 1, _ => .nop
def stpP : Option Expr → Expr → Option P1
  | none, .Constant (.int c) _ _ => if c ≠ 0 ∧ c ≠ 1 then some (.stp none c) else none
  | some (.Constant (.int l) _ _), .Constant (.int c) _ _ => if c ≠ 0 ∧ c ≠ 1 then some (.stp (some l) c) else none
  | none, .UnaryOp .USub (.Constant (.int 1) _ _) _ => some .rev
  | _, _ => none
def partT (f : Expr → T) : Option Expr → T
  | none => .nop
  | some e => .prt (f e)
section
variable (P : PTab) (rec : Md → CC → Expr → T)
def errIx (C : CC) : Expr → Option Nat
  | .Name y _ => if C.xn.contains y && !C.calm then vIx C y else none
  | _ => none
def errC (P : PTab) (C : CC) : Expr → Option Nat
  | .Name y _ => if isGl C y then match P.cl.lookup y with
      | some c => if P.xd.contains c && decide (c ≠ 1000) then some c else none
      | none => if y = "ValueError" && P.xd.contains 1000 then some 1000 else none
    else none
  | _ => none
def cCall (C : CC) (x : Str) (args : List Expr) : T :=
  if isGl C x && plainEs args then match P.fn.lookup x with
    | some i => if C.calm then opt ((argsT (args.map (rec .opd C))).map (.call i)) else .nop
    | none => match P.cl.lookup x with
      | some c => if P.mks.contains c && C.calm then opt ((argsT (args.map (rec .opd C))).map (.mak c)) else .nop
      | none => match args with
        | [a] => match (if x = "list" then isRange C a else none) with
          | some es => if C.calm then opt ((argsT (es.map (rec .opd C))).map .lrng) else .nop
          | none => match (if x = "tuple" then isRange C a else none) with
            | some es => if C.calm then opt ((argsT (es.map (rec .opd C))).map .trng) else .nop
            | none => match b1P x with
              | some p => if C.calm then .op1 p (rec .opd C a) else .nop
              | none => .nop
        | [a, b] => match b2P x with
          | some p => if C.calm && (rtT (rec .opd C a) || ncT (rec .opd C b)) then .op2 p (rec .opd C a) (rec .opd C b) else .nop
          | none => if x = "isinstance" then match errIx C a with
            | some i => match errC P C b with
              | some d => .xis i [d]
              | none => .nop
            | none => match b with
              | .Name y _ => if isGl C y then match P.cl.lookup y with
                  | some c => if P.cs.contains c then .op1 (.isC c P.cs) (rec .opd C a) else .nop
                  | none => match tyP y with
                    | some t => .op1 (.isT t P.cs) (rec .opd C a)
                    | none => .nop
                else .nop
              | _ => .nop
            else .nop
        | _ => .nop
  else .nop
def cIdx (C : CC) (o a : Expr) : T := match o with
  | .Tuple es _ _ => if plainEs es then opt ((argsT (es.map (rec .val C))).map fun as => .tix as (rec .opd C a)) else .nop
  | o => if rtT (rec .opd C o) || ncT (rec .opd C a) then .lix (rec .opd C o) (rec .opd C a) else .nop
def cMth (C : CC) (n : Nat) (o : Expr) (m : Str) (same : Bool) (args : List Expr) : T :=
  if notCall o && same && plainEs args && decide (args.length < 30) then match (if C.calm then P.mn.lookup m else none) with
    | some k => match argsT (args.map (rec .opd C)) with
      | some as => if rtT (rec .opd C o) || ncT as then .mth k (rec .opd C o) as else .nop
      | none => .nop
    | none => match args with
      | [a] => if m = "index" then cIdx rec C o a
        else match cPl P C n o with
          | some (i, r) => if m = "append" then (if r.isEmpty || ncT (rec .val C a) then .mut .append i r.reverse (.cons (rec .val C a) .nil) else .nop)
            else if m = "pop" then (if r.isEmpty || ncT (rec .opd C a) then .mut .popAt i r.reverse (.cons (rec .opd C a) .nil) else .nop)
            else if m = "extend" then (if r.isEmpty || ncT (rec .opd C a) then .mut .extend i r.reverse (.cons (rec .opd C a) .nil) else .nop)
            else .nop
          | none => .nop
      | [] => if m = "pop" then match cPl P C n o with
          | some (i, r) => .mut .pop i r.reverse .nil
          | none => .nop
        else .nop
      | _ => .nop
  else .nop
def cCmp (C : CC) (l : Expr) : List CmpOp → List Expr → T
  | [op], [r] =>
    if isNoneE r then match op with
      | .Is => .op1 .isNone (rec .opd C l)
      | .IsNot => .op1 .notNone (rec .opd C l)
      | _ => match cmpP op with
        | some p => if rtT (rec .opd C l) || ncT (rec .opd C r) then .op2 p (rec .opd C l) (rec .opd C r) else .nop
        | none => .nop
    else match cmpP op with
      | some p => if (rtT (rec .opd C l) || ncT (rec .opd C r)) && !behindInMarks op r then .op2 p (rec .opd C l) (rec .opd C r) else .nop
      | none => .nop
  | [op, op'], [b, c] => match cmpP op, cmpP op' with
    | some p, some p' => if (rtT (rec .opd C l) || ncT (rec .opd C b)) && (rtT (rec .opd C b) || ncT (rec .opd C c)) && !lastMarks [op, op'] [b, c] then .chn p p' (rec .opd C l) (rec .opd C b) (rec .opd C c) else .nop
    | _, _ => .nop
  | _, _ => .nop
def ieqK (C : CC) : Expr → Option Nat
  | .Name x _ => if P.iq.contains x && C.calm then P.mn.lookup ("__eq__" : Str) else none
  | _ => none
def cCmpI (C : CC) (l : Expr) (ops : List CmpOp) (cs : List Expr) : T := match ieqK P C l with
  | some m => match ops, cs with
    | [.Eq], [r] => if (rtT (rec .opd C l) || ncT (rec .opd C r)) && !behindInMarks .Eq r then .ieq m (rec .opd C l) (rec .opd C r) else .nop
    | [.NotEq], [r] => if (rtT (rec .opd C l) || ncT (rec .opd C r)) && !behindInMarks .NotEq r then .op1 .notB (.ieq m (rec .opd C l) (rec .opd C r)) else .nop
    | _, _ => cCmp rec C l ops cs
  | none => cCmp rec C l ops cs
def cBv (C : CC) (op : BoolOp) : List Expr → T
  | [] => .nop
  | [a] => rec .opd C a
  | a :: r => match op with
    | .And => .andV (rec .opd C a) (cBv C op r)
    | .Or => .orV (rec .opd C a) (cBv C op r)
def cBt (C : CC) (op : BoolOp) : List Expr → T
  | [] => .nil
  | [a] => rec .tst C a
  | a :: r => match op with
    | .And => .andT (rec .tst C a) (cBt C op r)
    | .Or => .orT (rec .tst C a) (cBt C op r)
def cLc (C : CC) (n : Nat) (elt tg iter : Expr) (ifs : List Expr) (scope : Scope) : T :=
  let own := ownN C scope
  let C' : CC := { C with sc := blkSc scope C.sc }
  let tT := cTg C' scope n tg
  if C.calm && blkC C.N C.sc scope own && (tgIx tT).all (own.map (·.2)).contains && okFold iter then match ifs with
    | [] => .lc (own.map (·.2)) (rec (itm tg) C iter) tT .nop (rec .val C' elt)
    | [c] => .lc (own.map (·.2)) (rec (itm tg) C iter) tT (rec .tst C' c) (rec .val C' elt)
    | _ => .nop
  else .nop
where okFold : Expr → Bool
  | .Set _ _ _ => false
  | _ => true
def cDc (C : CC) (n : Nat) (kx vx tg iter : Expr) (ifs : List Expr) (scope : Scope) : T :=
  let own := ownN C scope
  let C' : CC := { C with sc := blkSc scope C.sc }
  let tT := cTg C' scope n tg
  if C.calm && blkC C.N C.sc scope own && (tgIx tT).all (own.map (·.2)).contains && cLc.okFold iter then match ifs with
    | [] => .dlc (own.map (·.2)) (rec (itm tg) C iter) tT .nop (rec .val C' kx) (rec .val C' vx)
    | [c] => .dlc (own.map (·.2)) (rec (itm tg) C iter) tT (rec .tst C' c) (rec .val C' kx) (rec .val C' vx)
    | _ => .nop
  else .nop
def cMux (C : CC) (x : Str) (k : Expr) (m : Str) (same : Bool) (a : Expr) : T :=
  if same && plainE a && nilE k && decide (m = "append") && ncT (rec .val C a) then match vIx C x with
    | some i => .mux .append i [] (rec .opd C k) (.cons (rec .val C a) .nil)
    | none => .nop
  else .nop
def cOpd (n : Nat) (C : CC) (e : Expr) : T := match e with
  | .Constant c _ _ => opt ((conP c).map .con)
  | .Name x _ => match vIx C x with
    | some i => .plc i []
    | none => if isGl C x then opt ((P.gl.lookup x).map .con) else .nop
  | .Attribute o f _ => match cPl P C n e with
    | some (i, r) => .plc i r.reverse
    | none => if notCall o then match P.an.lookup f with
        | some k => if k < ixB then .fld (rec .val C o) k else .nop
        | none => .nop
      else .nop
  | .BinOp a op b _ => match binP op with
    | some p => if rtT (rec .opd C a) || ncT (rec .opd C b) then .op2 p (rec .opd C a) (rec .opd C b) else .nop
    | none => .nop
  | .UnaryOp .USub a _ => .op1 .neg (rec .opd C a)
  | .UnaryOp .Not a _ => .op1 .notB (rec .opd C a)
  | .Compare l ops cs _ => cCmpI P rec C l ops cs
  | .BoolOp op vs _ => cBv rec C op vs
  | .IfExp t a b _ => .ife (rec .tst C t) (rec .val C a) (rec .val C b)
  | .Tuple es _ _ => if plainEs es then opt ((argsT (es.map (rec .val C))).map .tup) else .nop
  | .List es _ => if plainEs es then opt ((argsT (es.map (rec .val C))).map (if isLL es then .lol else .lst)) else .nop
  | .Subscript a (.Slice lo hi none _) _ => if rtT (rec .opd C a) || (ncT (partT (rec .opd C) lo) && ncT (partT (rec .opd C) hi)) then .slc (rec .opd C a) (partT (rec .opd C) lo) (partT (rec .opd C) hi) else .nop
  | .Subscript a (.Slice lo none (some st) _) _ => match stpP lo st with
    | some p => .op1 p (rec .opd C a)
    | none => .nop
  | .Subscript (.Name x px) b _ => if C.lls.contains x then match vIx C x with
      | some i => if nilE b then .plx i [] (rec .opd C b) else .nop
      | none => .nop
    else if nilE b && (rtT (rec .opd C (.Name x px)) || ncT (rec .opd C b)) then .op2 .idx (rec .opd C (.Name x px)) (rec .opd C b) else .nop
  | .Subscript a b _ => if nilE b && (rtT (rec .opd C a) || ncT (rec .opd C b)) then .op2 .idx (rec .opd C a) (rec .opd C b) else .nop
  | .Call (.Name x _) args [] _ => cCall P rec C x args
  | .Call (.Attribute (.Subscript (.Name x px) k sp) m apos) [a] [] pos => if C.lls.contains x then cMux rec C x k m (apos.endLine == pos.line) a else cMth P rec C n (.Subscript (.Name x px) k sp) m (apos.endLine == pos.line) [a]
  | .Call (.Attribute o m apos) args [] pos => cMth P rec C n o m (apos.endLine == pos.line) args
  | .ListComp elt [⟨tg, iter, ifs, 0⟩] scope _ => cLc rec C n elt tg iter ifs scope
  | .DictComp kx vx [⟨tg, iter, ifs, 0⟩] scope _ => cDc rec C n kx vx tg iter ifs scope
  | .Dict [] [] _ => .dct
  | _ => .nop
def cTst (C : CC) (e : Expr) : T := match e with
  | .UnaryOp .Not a _ => .notT (rec .tst C a)
  | .BoolOp op vs _ => cBt rec C op vs
  | .Compare l ops cs _ => .bol (cCmpI P rec C l ops cs)
  | .IfExp _ _ _ _ => .nil
  | e => .tru (rec .opd C e)
def cVal (n : Nat) (C : CC) (e : Expr) : T := match e with
  | .Name x _ => match vIx C x with
    | some i => .nam i
    | none => if isGl C x then opt ((P.gl.lookup x).map .con) else .nop
  | .Attribute _ _ _ => match cPl P C n e with
    | some (i, r) => .rdp i r.reverse
    | none => rec .opd C e
  | e => rec .opd C e
def cRet (C : CC) (e : Expr) : T := match e with
  | .Name x _ => match vIx C x with
    | some i => .mov i
    | none => rec .val C e
  | e => rec .val C e
def cItr (C : CC) (e : Expr) : T := match isRange C e with
  | some es => opt ((argsT (es.map (rec .opd C))).map .irng)
  | none => match isRange3 C e with
    | some es => opt ((argsT (es.map (rec .opd C))).map .irn3)
    | none => match e with
      | .Attribute _ _ _ => .isq (rec .val C e)
      | _ => .isq (rec .opd C e)
def cItrT (C : CC) (e : Expr) : T := match e with
  | .Call (.Name x _) [a] [] _ => if decide (x = "enumerate") && (isGl C x && (plainE a && C.calm)) then match a with
      | .Attribute _ _ _ => .ien (rec .val C a)
      | _ => .ien (rec .opd C a)
    else cItr rec C e
  | e => cItr rec C e
end
def cE (P : PTab) : Nat → Md → CC → Expr → T
  | 0, .tst, _, _ => .nil
  | 0, _, _, _ => .nop
  | n + 1, .opd, C, e => cOpd P (cE P n) n C e
  | n + 1, .val, C, e => cVal P (cE P n) n C e
  | n + 1, .ret, C, e => cRet (cE P n) C e
  | n + 1, .tst, C, e => cTst P (cE P n) C e
  | n + 1, .itr, C, e => cItr (cE P n) C e
  | n + 1, .itrT, C, e => cItrT (cE P n) C e
end RF
set_option maxHeartbeats 1000000
namespace RF
open PySem PySem.Spec PyProof.Rows L2 Evl
def bltN : List Str := ["len", "tuple", "list", "sorted", "sum", "all", "any", "int", "min", "max", "isinstance", "range", "bool", "str", "dict", "ValueError", "enumerate", "zip"]
def codeV (G : Gr) (d : Nat) : Value := if d = 1000 then .type "ValueError" else .ref (G.cl d)
structure PF (P : PTab) (G : Gr) (g : RF.Gl) (k : Nat) (X : Cx) : Prop where
  K : G.K = X.K
  w : G.w = X.w
  att : AttF G
  gatt : ∀ c f, g.att c f = true → G.att c f = true
  cl : ∀ x c, P.cl.lookup x = some c → X.mg x = some (.ref (G.cl c))
  an : ∀ nm f, P.an.lookup nm = some f → G.an f = nm
  cs : ∀ c ∈ P.cs, ClsF G P.cs c
  gl : ∀ x p, P.gl.lookup x = some p → ∃ v u, X.mg x = some u ∧ RelV v u ∧ ∀ I, Rep G I v p
  nb : ∀ x ∈ bltN, X.mg x = none
  exc : ∀ c, g.isx c = true → ExcC X.K (G.cl c)
  kit : ∀ c d, g.isx c = true → d ∈ P.xd → PySem.W.kitOne X.K (.ref (G.cl c)) (codeV G d) = some (g.sub c d)
  exm : ∀ c d, g.isx c = true → d ∈ P.xd → PySem.W.exmOne X.K (.ref (G.cl c)) (codeV G d) = some (g.sub c d)
  eqn : ∀ m, P.mn.lookup ("__eq__" : Str) = some m → ∀ c i, g.met c m = some i → PySem.W.findIn X.K (.ref (G.cl c)) "__ne__" = some (some (.builtin "object.__ne__")) ∧ PySem.W.mroIn X.K (G.cl c) (.type "object") = some true
  rse : ∀ c ∈ P.xs, PySem.W.excIn X.K (G.cl c) [.type "ValueError", .type "Exception", .type "BaseException", .type "object"] "ValueError.__new__" = true ∧ PySem.W.keepIn X.K (.ref (G.cl c)) = true ∧
    PySem.W.subIn X.K (.ref (G.cl c)) (.type "BaseException") = some true ∧ PySem.W.typeIn X.K (.ref (G.cl c)) = some (.type "type")
structure PC (P : PTab) (G : Gr) (g : RF.Gl) (k : Nat) (X : Cx) : Prop where
  fn : ∀ x i, P.fn.lookup x = some i → ∃ fa, X.mg x = some (.ref fa) ∧ FnF X G g.sem k i fa
  mkr : ∀ c ∈ P.mks, ∃ i fa, g.ini c = some i ∧ Mk X.K (G.cl c) fa ∧ FnF X G g.sem k i fa
  met : ∀ nm m, P.mn.lookup nm = some m → MetF X G g k m nm
structure XOk (P : PTab) (G : Gr) (g : RF.Gl) (k : Nat) (C : CC) (X : Cx) (EX : WX) : Prop where
  pf : PF P G g k X
  pc : C.calm = true → PC P G g k X
  nN : X.N = C.N
  nd : X.N.Nodup
  sc : X.env.scope = C.sc
  calm : C.calm = true → X.calm = true
  tk : Takes X EX
  hu : X.A.units + 70 < cLine
  rmc : C.calm = true → Room (k + 1) X.A
  xa : C.calm = false → ∀ a c, G.xa a c → g.isx c = true ∧ CallR X (.builtin "isinstance") (rIsE X.K (G.cl c) a)
section
variable {P : PTab} {G : Gr} {g : RF.Gl} {k : Nat} {C : CC} {X : Cx} {EX : WX}
theorem XOk.rm0 (h : XOk P G g k C X EX) (hc : C.calm = true) : Room k X.A := (h.rmc hc).mono (Nat.le_succ _)
theorem okName_or {x : Str} (h : okName x = true) : (x == ("__debug__" : Str)) = false ∧ (x == ("__classdict__" : Str)) = false := by
  unfold okName at h
  rw [Bool.and_eq_true, Bool.not_eq_true', Bool.not_eq_true'] at h
  exact h
theorem vIx_ok (h : XOk P G g k C X EX) {x : Str} {i : Nat} (q : vIx C x = some i) : X.N[i]? = some x ∧ Vis X.env.scope x ∧ okName x = true := by
  unfold vIx at q
  split at q
  · rename_i c
    rw [Bool.and_eq_true] at c
    refine ⟨by rw [h.nN]; exact ixOf_get q, ?_, c.2⟩
    rw [h.sc]
    have c1 := c.1
    unfold visK at c1
    split at c1
    · rename_i e; exact .inl e
    · rename_i e; exact .inr (.inl e)
    · rename_i e; exact .inr (.inr e)
    · cases c1
  · cases q
theorem isGl_ok (h : XOk P G g k C X EX) {x : Str} (q : isGl C x = true) : L2.Gl X x ∧ (x == ("__debug__" : Str)) = false := by
  unfold isGl at q
  split at q
  · rename_i e
    refine ⟨?_, by simpa using q⟩
    show X.env.scope.names.lookup x = some .globalImplicit
    rw [h.sc]; exact e
  · cases q
theorem s_var (h : XOk P G g k C X EX) {x : Str} {i : Nat} {pos : Pos} (q : vIx C x = some i) : PE X (.Name x pos) (tVar i) := by
  obtain ⟨h1, h2, h3⟩ := vIx_ok h q
  exact pe_var h1 h2 (okName_or h3).1 (okName_or h3).2
theorem cPl_lt : ∀ {n : Nat} {e : Expr} {i : Nat} {r : List Nat}, cPl P C n e = some (i, r) → ∀ f ∈ r, f < ixB := by
  intro n
  induction n with
  | zero => intro e i r q; simp [cPl] at q
  | succ n ih =>
    intro e i r q
    cases e with
    | Name x pos =>
      rw [cPl] at q
      cases z : vIx C x with
      | none => rw [z] at q; cases q
      | some j =>
        rw [z] at q
        cases q
        exact fun f h => nomatch h
    | Attribute o f pos =>
      rw [cPl] at q
      cases z : cPl P C n o with
      | none => rw [z] at q; cases q
      | some jr =>
        obtain ⟨j, s⟩ := jr
        cases z2 : P.an.lookup f with
        | none => rw [z, z2] at q; cases q
        | some k =>
          rw [z, z2] at q
          dsimp only at q
          split at q
          · rename_i c
            rw [Bool.and_eq_true] at c
            cases q
            intro f' hf
            rcases List.mem_cons.mp hf with rfl | hf
            · exact of_decide_eq_true c.2
            · exact ih z f' hf
          · cases q
    | _ => simp [cPl] at q
theorem s_pl (h : XOk P G g k C X EX) : ∀ {n : Nat} {e : Expr} {i : Nat} {r : List Nat}, cPl P C n e = some (i, r) → PE X e (tPl G i r) := by
  intro n
  induction n with
  | zero => intro e i r q; simp [cPl] at q
  | succ n ih =>
    intro e i r q
    cases e with
    | Name x pos =>
      rw [cPl] at q
      cases z : vIx C x with
      | none => rw [z] at q; cases q
      | some j =>
        rw [z] at q
        cases q
        exact s_var h z
    | Attribute o f pos =>
      rw [cPl] at q
      cases z : cPl P C n o with
      | none => rw [z] at q; cases q
      | some jr =>
        obtain ⟨j, s⟩ := jr
        cases z2 : P.an.lookup f with
        | none => rw [z, z2] at q; cases q
        | some m =>
          rw [z, z2] at q
          dsimp only at q
          split at q
          · rename_i c
            cases q
            have e2 := h.pf.an f m z2
            have := pe_fld (f := f) (pos := pos) (ih z) (base_of ((Bool.and_eq_true _ _ ▸ c : _ ∧ _).1))
            rw [tPl, e2, h.pf.K]
            exact this
          · cases q
    | _ => simp [cPl] at q
theorem pl_plc (g : RF.Gl) : ∀ {t : T} {e : RF.Env} {i : Nat} {fs : List Nat} {e' : RF.Env}, evE g t e = .ok (.pl i fs) e' → t = .plc i fs ∨ (∃ j gs k, t = .plx j gs k) ∧ fs ≠ [] := by
  have out : ∀ {o : Option Slot} {e : RF.Env} {i fs e'}, outO o e = .ok (.pl i fs) e' → False := fun {o e i fs e'} q => by cases o <;> cases q
  have bnd : ∀ {α : Type} {r : R α} {f : α → RF.Env → R EV} {i fs e'}, r.bind f = .ok (.pl i fs) e' → ∃ a e1, r = .ok a e1 ∧ f a e1 = .ok (.pl i fs) e' := fun {α r f i fs e'} q => by
    cases r with
    | ok a e1 => exact ⟨a, e1, rfl, q⟩
    | exc x e1 => cases q
    | bad => cases q
  have onl : ∀ {x : EV} {e : RF.Env} {i fs e'}, onlySl x e = .ok (.pl i fs) e' → False := fun {x e i fs e'} q => by cases x <;> cases q
  have op2o : ∀ {p : P2} {v w : EV} {e : RF.Env} {i fs e'}, kOp2 p v w e = .ok (.pl i fs) e' → False := fun {p v w e i fs e'} q => by
    unfold kOp2 at q
    split at q
    · exact out q
    · cases q
  have callo : ∀ {sem : Nat → List Slot → RF.CR} {f : Nat} {as : List EV} {e : RF.Env} {i fs e'}, callR sem f as e = .ok (.pl i fs) e' → False := fun {sem f as e i fs e'} q => by
    unfold callR at q
    split at q
    · split at q
      · split at q
        · split at q <;> cases q
        · cases q
        · cases q
      · cases q
    · cases q
  intro t e i fs e' q
  cases t with
  | con v => rw [evE] at q; cases q
  | nam j =>
    rw [evE] at q
    unfold readP at q
    split at q
    · cases q
    · split at q <;> cases q
    · cases q
  | rdp j gs =>
    rw [evE] at q
    unfold readP at q
    split at q
    · cases q
    · split at q <;> cases q
    · cases q
  | mov j =>
    rw [evE] at q
    unfold kMov at q
    split at q
    · cases q
    · split at q <;> cases q
    · cases q
  | plc j gs =>
    rw [evE] at q
    unfold kPlc at q
    have e2 : EV.pl j gs = .pl i fs := by
      split at q
      · cases q
      · cases q; rfl
      · cases q
    cases e2
    exact .inl rfl
  | gtv j gs =>
    rw [evE] at q
    unfold kGtv at q
    split at q <;> cases q
  | fld a f =>
    rw [evE] at q
    obtain ⟨x, e1, _, q⟩ := bnd q
    unfold kFld at q
    split at q
    · split at q <;> cases q
    · cases q
  | op1 p a =>
    rw [evE] at q
    obtain ⟨x, e1, _, q⟩ := bnd q
    unfold kOp1 at q
    split at q
    · exact (out q).elim
    · cases q
  | op2 p a b =>
    rw [evE] at q
    obtain ⟨x, e1, _, q⟩ := bnd q
    obtain ⟨y, e2, _, q⟩ := bnd q
    exact (op2o q).elim
  | chn p p' a b c =>
    rw [evE] at q
    obtain ⟨x, e1, _, q⟩ := bnd q
    obtain ⟨y, e2, _, q⟩ := bnd q
    obtain ⟨z, e3, _, q⟩ := bnd q
    cases z with
    | true =>
      obtain ⟨w, e4, _, q⟩ := bnd q
      exact (op2o q).elim
    | false => cases q
  | lix a b =>
    rw [evE] at q
    obtain ⟨x, e1, _, q⟩ := bnd q
    split at q
    · obtain ⟨y, e2, _, q⟩ := bnd q
      exact (op2o q).elim
    · cases q
  | tix as b =>
    rw [evE] at q
    obtain ⟨x, e1, _, q⟩ := bnd q
    obtain ⟨y, e2, _, q⟩ := bnd q
    unfold kTix at q
    split at q
    · exact (out q).elim
    · cases q
  | slc a lo hi =>
    rw [evE] at q
    obtain ⟨x, e1, _, q⟩ := bnd q
    obtain ⟨y, e2, _, q⟩ := bnd q
    obtain ⟨z, e3, _, q⟩ := bnd q
    exact (out q).elim
  | andV a b =>
    rw [evE] at q
    obtain ⟨x, e1, _, q⟩ := bnd q
    try dsimp only at q
    split at q
    · obtain ⟨w, e4, _, q⟩ := bnd q
      exact (onl q).elim
    · cases q
    · cases q
  | orV a b =>
    rw [evE] at q
    obtain ⟨x, e1, _, q⟩ := bnd q
    try dsimp only at q
    split at q
    · obtain ⟨w, e4, _, q⟩ := bnd q
      exact (onl q).elim
    · cases q
    · cases q
  | ife c a b =>
    rw [evE] at q
    obtain ⟨x, e1, _, q⟩ := bnd q
    try dsimp only at q
    split at q
    · obtain ⟨w, e4, _, q⟩ := bnd q
      exact (onl q).elim
    · obtain ⟨w, e4, _, q⟩ := bnd q
      exact (onl q).elim
  | tup as =>
    rw [evE] at q
    obtain ⟨x, e1, _, q⟩ := bnd q
    unfold kTup at q
    split at q
    · split at q <;> cases q
    · cases q
  | lst as =>
    rw [evE] at q
    obtain ⟨x, e1, _, q⟩ := bnd q
    unfold kLst at q
    split at q
    · split at q <;> cases q
    · cases q
  | call f as =>
    rw [evE] at q
    obtain ⟨x, e1, _, q⟩ := bnd q
    exact (callo q).elim
  | mak c as =>
    rw [evE] at q
    obtain ⟨x, e1, _, q⟩ := bnd q
    unfold makR at q
    split at q
    · split at q
      · split at q
        · split at q <;> cases q
        · cases q
        · cases q
      · cases q
    · cases q
  | mth m o as =>
    rw [evE] at q
    obtain ⟨x, e1, _, q⟩ := bnd q
    obtain ⟨y, e2, _, q⟩ := bnd q
    obtain ⟨z, e3, _, q⟩ := bnd q
    exact (callo q).elim
  | «mut» m j gs as =>
    rw [evE] at q
    split at q
    · obtain ⟨x, e1, _, q⟩ := bnd q
      unfold kMut at q
      split at q
      · split at q <;> cases q
      · cases q
    · cases q
  | lc own it tg cs el =>
    rw [evE] at q
    obtain ⟨x, e1, _, q⟩ := bnd q
    unfold kLc at q
    split at q
    · split at q <;> cases q
    · cases q
  | dlc own it tg cs ke ve =>
    rw [evE] at q
    obtain ⟨x, e1, _, q⟩ := bnd q
    unfold kDc at q
    split at q
    · split at q <;> cases q
    · cases q
  | lol as =>
    rw [evE] at q
    obtain ⟨x, e1, _, q⟩ := bnd q
    unfold kLol at q
    split at q
    · split at q <;> cases q
    · cases q
  | plx j gs k =>
    rw [evE] at q
    split at q
    · obtain ⟨x, e1, _, q⟩ := bnd q
      unfold kPlx at q
      split at q
      · cases q; exact .inr ⟨⟨_, _, _, rfl⟩, by simp⟩
      · cases q
    · cases q
  | mux m j gs k as =>
    rw [evE] at q
    split at q
    · obtain ⟨w, e0, _, q⟩ := bnd q
      split at q
      · split at q
        · obtain ⟨x, e1, _, q⟩ := bnd q
          unfold kMut at q
          split at q
          · split at q <;> cases q
          · cases q
        · cases q
      · cases q
    · cases q
  | lrng as =>
    rw [evE] at q
    obtain ⟨x, e1, _, q⟩ := bnd q
    unfold kLrng at q
    split at q
    · split at q
      · split at q <;> cases q
      · cases q
    · cases q
  | trng as =>
    rw [evE] at q
    obtain ⟨x, e1, _, q⟩ := bnd q
    unfold kTrng at q
    split at q
    · split at q
      · split at q <;> cases q
      · cases q
    · cases q
  | ieq m a b =>
    rw [evE] at q
    obtain ⟨x, e1, _, q⟩ := bnd q
    obtain ⟨y, e2, _, q⟩ := bnd q
    unfold kIeq at q
    split at q
    · obtain ⟨f, e3, _, q⟩ := bnd q
      exact (callo q).elim
    · cases q
  | xis j cs =>
    rw [evE] at q
    unfold kXis at q
    split at q <;> cases q
  | _ => simp [evE] at q
theorem rt_roots (g : RF.Gl) {t : T} (ht : rtT t = true) : Roots (evE g t) := fun e i fs e' q => by
  rcases pl_plc g q with this | ⟨⟨_, _, _, this⟩, _⟩
  · subst this
    cases fs with
    | nil => rfl
    | cons _ _ => cases ht
  · subst this; cases ht
theorem rt_or {t : T} {b : Bool} (h : (rtT t || b) = true) : Roots (evE g t) ∨ b = true := by
  rw [Bool.or_eq_true] at h
  exact h.imp (rt_roots g) id
end
end RF
set_option maxHeartbeats 1000000
namespace RF
open PySem PySem.Spec PyProof.Rows L2 Evl
def Snd (G : Gr) (g : RF.Gl) (X : Cx) (EX : WX) : Md → Expr → T → Prop
  | .tst, e, t => PT X e (tT G EX (ncT t) (evT g t))
  | .itr, e, t => (∀ tg, PI X tg e (tI G EX (ncT t) (evI g t)))
  | .itrT, e, t => (∀ es kk pos, PI X (.Tuple es kk pos) e (tI G EX (ncT t) (evI g t)))
  | _, e, t => PE X e (tE G EX (ncT t) (evE g t))
section
variable {P : PTab} {G : Gr} {g : RF.Gl} {k : Nat} {C : CC} {X : Cx} {EX : WX} {rec : Md → CC → Expr → T} {n : Nat}
theorem pe_bad {e : Expr} {f : FE} {nc : Bool} (h : ∀ en, f en = .bad) : PE X e (tE G EX nc f) := ⟨fun pins s σ H Q J z => by
  obtain ⟨I, en, F, w, q⟩ := z
  rw [h en] at q
  exact q.elim⟩
theorem pe_nop {e : Expr} {nc : Bool} : PE X e (tE G EX nc (evE g .nop)) := pe_bad fun en => by simp [evE]
theorem pt_bad {e : Expr} {f : FT} {nc : Bool} (h : ∀ en, f en = .bad) : PT X e (tT G EX nc f) := ⟨fun pins s σ H Q J z => by
  obtain ⟨I, en, F, w, q⟩ := z
  rw [h en] at q
  exact q.elim⟩
theorem pt_nil {e : Expr} {nc : Bool} : PT X e (tT G EX nc (evT g .nil)) := pt_bad fun en => by simp [evT]
theorem pi_bad {e tg : Expr} {f : RF.Env → R (EV × List PV)} {nc : Bool} (h : ∀ en, f en = .bad) : PI X tg e (tI G EX nc f) := ⟨fun pins s σ H Q J z => by
  obtain ⟨I, en, F, w, q⟩ := z
  rw [h en] at q
  exact q.elim⟩
theorem pi_nop {e tg : Expr} {nc : Bool} : PI X tg e (tI G EX nc (evI g .nop)) := pi_bad fun en => by simp [evI]
def cntT : T → Nat
  | .cons _ r => cntT r + 1
  | _ => 0
theorem s_args {md : Md} (hmd : md = .opd ∨ md = .val) : ∀ {es : List Expr} {t : T}, plainEs es = true → (∀ e ∈ es, Snd G g X EX md e (rec md C e)) → argsT (es.map (rec md C)) = some t → PA X es (tA G EX (ncT t) (evA g t)) ∧ (es = [] → t = .nil) ∧ cntT t = es.length := by
  intro es
  induction es with
  | nil =>
    intro t _ _ q
    cases q
    refine ⟨PA.imp pa_nil fun σ H Q z => t_nil (by
      have e : evA g .nil = fun e => .ok [] e := by funext e; rw [evA]
      rw [e] at z; exact z), fun _ => rfl, rfl⟩
  | cons e es ih =>
    intro t hp hr q
    unfold plainEs at hp
    rw [List.all_cons, Bool.and_eq_true] at hp
    rw [List.map_cons, argsT] at q
    cases z : argsT (es.map (rec md C)) with
    | none => rw [z] at q; cases q
    | some r =>
      rw [z] at q
      dsimp only at q
      unfold consT at q
      split at q
      · rename_i c
        cases q
        obtain ⟨h1, _, h3⟩ := ih hp.2 (fun e he => hr e (List.mem_cons_of_mem _ he)) z
        have he : PE X e (tE G EX (ncT (rec md C e)) (evE g (rec md C e))) := by
          have := hr e List.mem_cons_self
          rcases hmd with rfl | rfl <;> exact this
        refine ⟨PA.imp (pa_cons he h1 (star_cons hp.1)) fun σ H Q z => t_cons (rt_or c) (by
          have e2 : evA g (.cons (rec md C e) r) = fun en => (evE g (rec md C e) en).bind fun v en => (evA g r en).bind fun vs en => .ok (v :: vs) en := by funext en; rw [evA]; try rfl
          rw [e2] at z; exact z), fun h => (by cases h), by rw [cntT, h3]; rfl⟩
      · cases q
theorem evA_len : ∀ {t : T} {e e' : RF.Env} {xs : List EV}, evA g t e = .ok xs e' → xs.length = cntT t := by
  intro t
  induction t with
  | nil => intro e e' xs q; rw [evA] at q; cases q; rfl
  | cons a r _ ih =>
    intro e e' xs q
    rw [evA] at q
    cases z1 : evE g a e with
    | exc _ _ => rw [z1] at q; cases q
    | bad => rw [z1] at q; cases q
    | ok v e1 =>
      rw [z1] at q
      have q2 : (evA g r e1).bind (fun vs en => .ok (v :: vs) en) = .ok xs e' := q
      cases z2 : evA g r e1 with
      | exc _ _ => rw [z2] at q2; cases q2
      | bad => rw [z2] at q2; cases q2
      | ok vs e2 =>
        rw [z2] at q2
        cases q2
        exact congrArg Nat.succ (ih z2)
  | _ => intro e e' xs q; simp [evA] at q
theorem binP_of {o : Operator} {p : P2} (h : binP o = some p) : binOf p = some o := by cases o <;> cases h <;> rfl
theorem cmpP_of {o : CmpOp} {p : P2} (h : cmpP o = some p) : cmpOf p = some o ∧ binOf p = none := by cases o <;> cases h <;> exact ⟨rfl, rfl⟩
theorem any_bin {o : Operator} {p : P2} (h : binP o = some p) (K : PySem.W.Frag) (w : World) : rAny2 K w p = rBin K p := by
  unfold rAny2
  rw [binP_of h]
theorem any_cmp {o : CmpOp} {p : P2} (h : cmpP o = some p) (K : PySem.W.Frag) (w : World) : rAny2 K w p = rCmp K w p := by
  unfold rAny2
  rw [(cmpP_of h).1, (cmpP_of h).2]
theorem e_op2 {p : P2} {a b : T} : evE g (.op2 p a b) = fun en => (evE g a en).bind fun x en => (evE g b en).bind (kOp2 p x) := by funext en; rw [evE]; try rfl
theorem e_op1 {p : P1} {a : T} : evE g (.op1 p a) = fun en => (evE g a en).bind (kOp1 p) := by funext en; rw [evE]; try rfl
theorem s_op2 (h : XOk P G g k C X EX) {e : Expr} {p : P2} {a b : T} (hs : (rtT a || ncT b) = true) (he : PE X e (tOp (rAny2 X.K X.w p) (tE G EX (ncT a) (evE g a)) (tE G EX (ncT b) (evE g b)))) : PE X e (tE G EX (ncT (.op2 p a b)) (evE g (.op2 p a b))) := by
  refine PE.imp he fun σ H Q z => ?_
  rw [e_op2] at z
  rw [← h.pf.K, ← h.pf.w]
  exact t_op2 (rt_or hs) z
theorem s_op1 (h : XOk P G g k C X EX) {e : Expr} {p : P1} {a : T} (hp : okP1 G p) (he : PE X e (tUn (r1 X.K G.cl p) (tE G EX (ncT a) (evE g a)))) : PE X e (tE G EX (ncT (.op1 p a)) (evE g (.op1 p a))) := by
  refine PE.imp he fun σ H Q z => ?_
  rw [e_op1] at z
  rw [← h.pf.K]
  exact t_op1 hp z
theorem s_bin (h : XOk P G g k C X EX) {a b : Expr} {o : Operator} {p : P2} {ta tb : T} {pos : Pos} (hp : binP o = some p) (hs : (rtT ta || ncT tb) = true) (ha : PE X a (tE G EX (ncT ta) (evE g ta))) (hb : PE X b (tE G EX (ncT tb) (evE g tb))) :
    PE X (.BinOp a o b pos) (tE G EX (ncT (.op2 p ta tb)) (evE g (.op2 p ta tb))) := s_op2 h hs (by
  rw [any_bin hp]
  exact pe_op (op_bin (binP_of hp)) ha hb)
theorem s_cmp1 (h : XOk P G g k C X EX) {a b : Expr} {o : CmpOp} {p : P2} {ta tb : T} {pos : Pos} (hp : cmpP o = some p) (hm : behindInMarks o b = false) (hs : (rtT ta || ncT tb) = true) (ha : PE X a (tE G EX (ncT ta) (evE g ta))) (hb : PE X b (tE G EX (ncT tb) (evE g tb))) :
    PE X (.Compare a [o] [b] pos) (tE G EX (ncT (.op2 p ta tb)) (evE g (.op2 p ta tb))) := s_op2 h hs (by
  rw [any_cmp hp]
  exact pe_cmpR (op_cmp h.hu (cmpP_of hp).1) ha hb hm)
theorem isNoneE_eq {e : Expr} (h : isNoneE e = true) : ∃ j pos, e = .Constant .none j pos := by
  cases e with
  | Constant c j pos => cases c <;> first | exact ⟨_, _, rfl⟩ | cases h
  | _ => cases h
theorem marks_none {o : CmpOp} {j : Nat} {pos : Pos} : behindInMarks o (.Constant .none j pos) = false := rfl
theorem s_cmp (h : XOk P G g k C X EX) (hr : ∀ e, Snd G g X EX .opd e (rec .opd C e)) {l : Expr} {ops : List CmpOp} {cs : List Expr} {pos : Pos} : PE X (.Compare l ops cs pos) (tE G EX (ncT (cCmp rec C l ops cs)) (evE g (cCmp rec C l ops cs))) := by
  unfold cCmp
  split
  · rename_i op r
    split
    · rename_i hn
      obtain ⟨j, p2, rfl⟩ := isNoneE_eq hn
      cases op with
      | Is => exact s_op1 h trivial (pe_cmp (pc_isN (hr l)) marks_none)
      | IsNot => exact s_op1 h trivial (pe_cmp (pc_notN (hr l)) marks_none)
      | _ =>
        dsimp only
        split
        · rename_i p hp
          split
          · rename_i c
            exact s_cmp1 h hp marks_none c (hr _) (hr _)
          · exact pe_nop
        · exact pe_nop
    · split
      · rename_i p hp
        split
        · rename_i c
          rw [Bool.and_eq_true, Bool.not_eq_true'] at c
          exact s_cmp1 h hp c.2 c.1 (hr _) (hr _)
        · exact pe_nop
      · exact pe_nop
  · rename_i op op' b c
    split
    · rename_i p p' hp hp'
      split
      · rename_i cc
        rw [Bool.and_eq_true, Bool.and_eq_true, Bool.not_eq_true'] at cc
        refine PE.imp (pe_chain (op_cmp h.hu (cmpP_of hp).1) (op_cmp h.hu (cmpP_of hp').1) (hr l) (hr b) (hr c) cc.2) fun σ H Q z => ?_
        have e2 : evE g (.chn p p' (rec .opd C l) (rec .opd C b) (rec .opd C c)) = fun en => (evE g (rec .opd C l) en).bind fun u en => (evE g (rec .opd C b) en).bind fun v en => (kChn p u v en).bind fun k en => match k with
          | true => (evE g (rec .opd C c) en).bind (kOp2 p' v)
          | false => .ok (.sl (.val (.bl false))) en := by funext en; rw [evE]; try rfl
        rw [e2] at z
        rw [← h.pf.K, ← h.pf.w]
        exact t_chn (cmpP_of hp).1 (cmpP_of hp').1 (rt_or cc.1.1) (rt_or cc.1.2) z
      · exact pe_nop
    · exact pe_nop
  · exact pe_nop
theorem e_ieq {m : Nat} {a b : T} : evE g (.ieq m a b) = fun en => (evE g a en).bind fun v en => (evE g b en).bind (kIeq g m v) := by funext en; rw [evE]
theorem ieqK_ok (h : XOk P G g k C X EX) {l : Expr} {m : Nat} (q : ieqK P C l = some m) : C.calm = true ∧ P.mn.lookup ("__eq__" : Str) = some m := by
  unfold ieqK at q
  split at q
  · split at q
    · rename_i c
      rw [Bool.and_eq_true] at c
      exact ⟨c.2, q⟩
    · cases q
  · cases q
theorem s_cmpI (h : XOk P G g k C X EX) (hr : ∀ e, Snd G g X EX .opd e (rec .opd C e)) {l : Expr} {ops : List CmpOp} {cs : List Expr} {pos : Pos} : PE X (.Compare l ops cs pos) (tE G EX (ncT (cCmpI P rec C l ops cs)) (evE g (cCmpI P rec C l ops cs))) := by
  unfold cCmpI
  split
  · rename_i m hq
    obtain ⟨hc, hm⟩ := ieqK_ok h hq
    have hM := (h.pc hc).met _ _ hm
    split
    · rename_i r
      split
      · rename_i c
        rw [Bool.and_eq_true, Bool.not_eq_true'] at c
        refine ⟨fun pins s σ H Q I z => ?_⟩
        have z : tE G EX false (evE g (.ieq m (rec .opd C l) (rec .opd C r))) σ H Q := z
        rw [e_ieq] at z
        exact wpAny_Compare1 (binT (R := fun x y H2 => EqT X G g k m EX σ x y H2 Q) (hr l) (hr r) I (t_ieq h.pf.K.symm hM (rt_or c.1) z) fun v u s2 x y H2 I2 rx ry q => run_eq h.tk (h.rm0 hc) I2 rx ry q) c.2
      · exact pe_nop
    · rename_i r
      split
      · rename_i c
        rw [Bool.and_eq_true, Bool.not_eq_true'] at c
        refine s_op1 (p := .notB) h trivial ⟨fun pins s σ H Q I z => ?_⟩
        have z : tE G EX false (evE g (.ieq m (rec .opd C l) (rec .opd C r))) σ H (fun v H1 => ∃ b, v = .bl b ∧ Q (.bl (!b)) H1) := z
        rw [e_ieq] at z
        exact wpAny_Compare1 (binT (R := fun x y H2 => EqT X G g k m EX σ x y H2 (fun v H1 => ∃ b, v = .bl b ∧ Q (.bl (!b)) H1)) (hr l) (hr r) I (t_ieq h.pf.K.symm hM (rt_or c.1) z) fun v u s2 x y H2 I2 rx ry q => run_ne h.tk (h.rmc hc) I2 rx ry (h.pf.eqn m hm) q) c.2
      · exact pe_nop
    · exact s_cmp h hr
  · exact s_cmp h hr
theorem s_bv (h : XOk P G g k C X EX) (hr : ∀ e, Snd G g X EX .opd e (rec .opd C e)) {op : BoolOp} {pos : Pos} : ∀ {vs : List Expr}, PE X (.BoolOp op vs pos) (tE G EX (ncT (cBv rec C op vs)) (evE g (cBv rec C op vs)))
  | [] => by rw [cBv]; exact pe_nop
  | [a] => pe_one (hr a)
  | a :: b :: r => by
    have ih := s_bv h hr (op := op) (pos := pos) (vs := b :: r)
    · cases op with
      | And =>
        have e1 : cBv rec C .And (a :: b :: r) = .andV (rec .opd C a) (cBv rec C .And (b :: r)) := rfl
        rw [e1]
        refine PE.imp (pe_and (hr a) ih) fun σ H Q z => t_andV (by
          have e2 : evE g (.andV (rec .opd C a) (cBv rec C .And (b :: r))) = fun en => (evE g (rec .opd C a) en).bind fun v en => match boolOf v with
            | some true => (evE g (cBv rec C .And (b :: r)) en).bind onlySl
            | some false => .ok (.sl (.val (.bl false))) en
            | none => .bad := by funext en; rw [evE]; try rfl
          rw [e2] at z
          exact z)
      | Or =>
        have e1 : cBv rec C .Or (a :: b :: r) = .orV (rec .opd C a) (cBv rec C .Or (b :: r)) := rfl
        rw [e1]
        refine PE.imp (pe_or (hr a) ih) fun σ H Q z => t_orV (by
          have e2 : evE g (.orV (rec .opd C a) (cBv rec C .Or (b :: r))) = fun en => (evE g (rec .opd C a) en).bind fun v en => match boolOf v with
            | some false => (evE g (cBv rec C .Or (b :: r)) en).bind onlySl
            | some true => .ok (.sl (.val (.bl true))) en
            | none => .bad := by funext en; rw [evE]; try rfl
          rw [e2] at z
          exact z)
theorem s_bt (h : XOk P G g k C X EX) (hr : ∀ e, Snd G g X EX .tst e (rec .tst C e)) {op : BoolOp} {pos : Pos} : ∀ {vs : List Expr}, vs ≠ [] → PW X (.BoolOp op vs pos) (tT G EX (ncT (cBt rec C op vs)) (evT g (cBt rec C op vs)))
  | [], q => absurd rfl q
  | [a], _ => by
    have e1 : cBt rec C op [a] = rec .tst C a := rfl
    rw [e1]
    cases op with
    | And => exact pw_and1 (hr a)
    | Or => exact pw_or1 (hr a)
  | a :: b :: r, _ => by
    have ih := s_bt h hr (op := op) (pos := pos) (vs := b :: r) (by simp)
    · cases op with
      | And =>
        have e1 : cBt rec C .And (a :: b :: r) = .andT (rec .tst C a) (cBt rec C .And (b :: r)) := rfl
        rw [e1]
        refine PW.imp (pw_and (hr a) ih) fun σ H Q z => t_and (by
          have e2 : evT g (.andT (rec .tst C a) (cBt rec C .And (b :: r))) = fun en => (evT g (rec .tst C a) en).bind fun k en => match k with
            | true => evT g (cBt rec C .And (b :: r)) en
            | false => .ok false en := by funext en; rw [evT]; try rfl
          rw [e2] at z
          exact z)
      | Or =>
        have e1 : cBt rec C .Or (a :: b :: r) = .orT (rec .tst C a) (cBt rec C .Or (b :: r)) := rfl
        rw [e1]
        refine PW.imp (pw_or (hr a) ih) fun σ H Q z => t_or (by
          have e2 : evT g (.orT (rec .tst C a) (cBt rec C .Or (b :: r))) = fun en => (evT g (rec .tst C a) en).bind fun k en => match k with
            | true => .ok true en
            | false => evT g (cBt rec C .Or (b :: r)) en := by funext en; rw [evT]; try rfl
          rw [e2] at z
          exact z)
theorem truth_of {e : Expr} {env : PySem.Env} (h1 : ∀ op vs pos, e ≠ .BoolOp op vs pos) (h2 : ∀ a pos, e ≠ .UnaryOp .Not a pos) (h3 : ∀ l ops cs pos, e ≠ .Compare l ops cs pos) (h4 : ∀ t a b pos, e ≠ .IfExp t a b pos) (whole : Sem Value) :
    isTrue e env whole = (do let v ← whole; standAt e.pos; holding [v] (truthy v)) := by
  cases e with
  | BoolOp op vs pos => exact absurd rfl (h1 op vs pos)
  | UnaryOp op a pos => cases op <;> first | rfl | exact absurd rfl (h2 a pos)
  | Compare l ops cs pos => exact absurd rfl (h3 l ops cs pos)
  | IfExp t a b pos => exact absurd rfl (h4 t a b pos)
  | _ => rfl
theorem pt_cmpAll {l : Expr} {ops : List CmpOp} {cs : List Expr} {pos : Pos} (h : XOk P G g k C X EX) (hr : ∀ e, Snd G g X EX .opd e (rec .opd C e)) : PT X (.Compare l ops cs pos) (tT G EX (ncT (cCmp rec C l ops cs)) (evT g (.bol (cCmp rec C l ops cs)))) := by
  have e0 : ∀ t : T, evT g (.bol t) = fun en => (evE g t en).bind kBol := fun t => by funext en; rw [evT]; try rfl
  have bad : ∀ nc, PT X (.Compare l ops cs pos) (tT G EX nc (evT g (.bol .nop))) := fun nc => pt_bad fun en => by
    rw [e0]
    have : evE g .nop en = .bad := by simp [evE]
    simp only [this, R.bind]
  have fin : ∀ {t : T}, PT X (.Compare l ops cs pos) (tTest (tE G EX (ncT t) (evE g t))) → PT X (.Compare l ops cs pos) (tT G EX (ncT t) (evT g (.bol t))) := fun {t} q => PT.imp q fun σ H Q z => t_bol (by rw [e0] at z; exact z)
  unfold cCmp
  split
  · rename_i op r
    split
    · rename_i hn
      obtain ⟨j, p2, rfl⟩ := isNoneE_eq hn
      cases op with
      | Is =>
        refine fin (PT.imp (pt_cmp (pc_isN (hr l)) marks_none) fun σ H Q z => ?_)
        rw [e_op1] at z
        exact t_op1 (p := .isNone) trivial z
      | IsNot =>
        refine fin (PT.imp (pt_cmp (pc_notN (hr l)) marks_none) fun σ H Q z => ?_)
        rw [e_op1] at z
        exact t_op1 (p := .notNone) trivial z
      | _ =>
        dsimp only
        split
        · rename_i p hp
          split
          · rename_i c
            refine fin (PT.imp (pt_cmpR (op_cmp h.hu (cmpP_of hp).1) (hr _) (hr _) marks_none) fun σ H Q z => ?_)
            rw [e_op2] at z
            rw [← any_cmp hp, ← h.pf.K, ← h.pf.w]
            exact t_op2 (rt_or c) z
          · exact bad _
        · exact bad _
    · split
      · rename_i p hp
        split
        · rename_i c
          rw [Bool.and_eq_true, Bool.not_eq_true'] at c
          refine fin (PT.imp (pt_cmpR (op_cmp h.hu (cmpP_of hp).1) (hr _) (hr _) c.2) fun σ H Q z => ?_)
          rw [e_op2] at z
          rw [← any_cmp hp, ← h.pf.K, ← h.pf.w]
          exact t_op2 (rt_or c.1) z
        · exact bad _
      · exact bad _
  · rename_i op op' b c
    split
    · rename_i p p' hp hp'
      split
      · rename_i cc
        rw [Bool.and_eq_true, Bool.and_eq_true, Bool.not_eq_true'] at cc
        refine fin (PT.imp (pt_chain (op_cmp h.hu (cmpP_of hp).1) (op_cmp h.hu (cmpP_of hp').1) (hr l) (hr b) (hr c) cc.2) fun σ H Q z => ?_)
        have e2 : evE g (.chn p p' (rec .opd C l) (rec .opd C b) (rec .opd C c)) = fun en => (evE g (rec .opd C l) en).bind fun u en => (evE g (rec .opd C b) en).bind fun v en => (kChn p u v en).bind fun k en => match k with
          | true => (evE g (rec .opd C c) en).bind (kOp2 p' v)
          | false => .ok (.sl (.val (.bl false))) en := by funext en; rw [evE]; try rfl
        rw [e2] at z
        rw [← h.pf.K, ← h.pf.w]
        exact t_chn (cmpP_of hp).1 (cmpP_of hp').1 (rt_or cc.1.1) (rt_or cc.1.2) z
      · exact bad _
    · exact bad _
  · exact bad _
theorem pt_cmpI {l : Expr} {ops : List CmpOp} {cs : List Expr} {pos : Pos} (h : XOk P G g k C X EX) (hr : ∀ e, Snd G g X EX .opd e (rec .opd C e)) : PT X (.Compare l ops cs pos) (tT G EX (ncT (cCmpI P rec C l ops cs)) (evT g (.bol (cCmpI P rec C l ops cs)))) := by
  have e0 : ∀ t : T, evT g (.bol t) = fun en => (evE g t en).bind kBol := fun t => by funext en; rw [evT]; try rfl
  have bad : ∀ nc, PT X (.Compare l ops cs pos) (tT G EX nc (evT g (.bol .nop))) := fun nc => pt_bad fun en => by
    rw [e0]
    have : evE g .nop en = .bad := by simp [evE]
    simp only [this, R.bind]
  have fin : ∀ {t : T}, PT X (.Compare l ops cs pos) (tTest (tE G EX (ncT t) (evE g t))) → PT X (.Compare l ops cs pos) (tT G EX (ncT t) (evT g (.bol t))) := fun {t} q => PT.imp q fun σ H Q z => t_bol (by rw [e0] at z; exact z)
  unfold cCmpI
  split
  · rename_i m hq
    obtain ⟨hc, hm⟩ := ieqK_ok h hq
    have hM := (h.pc hc).met _ _ hm
    split
    · rename_i r
      split
      · rename_i c
        rw [Bool.and_eq_true, Bool.not_eq_true'] at c
        refine fin ⟨fun pins s σ H Q I z => ?_⟩
        have z : tE G EX false (evE g (.ieq m (rec .opd C l) (rec .opd C r))) σ H (fun x H' => ∃ k, x = .bl k ∧ Q k H') := z
        rw [e_ieq] at z
        have z2 := t_ieq (n := ncT (rec .opd C l)) (m := ncT (rec .opd C r)) h.pf.K.symm hM (rt_or c.1) z
        refine wpAny_isTrue_Compare1 (thn ((hr l).run pins s σ H _ I z2) fun v s1 ⟨x, H1, I1, r1, q1⟩ => thn ((hr r).run pins s1 σ H1 _ I1 q1) fun u s2 ⟨y, H2, I2, r2, q2⟩ =>
          thn (run_eq h.tk (h.rm0 hc) I2 r1 r2 q2) fun cc s3 ⟨zz, H3, I3, r3, k, e, q3⟩ => ?_) c.2
        subst e
        cases r3
        exact wpAny_truthy_bool ⟨H3, I3, q3⟩
      · exact bad _
    · rename_i r
      split
      · rename_i c
        rw [Bool.and_eq_true, Bool.not_eq_true'] at c
        refine fin ⟨fun pins s σ H Q I z => ?_⟩
        rw [e_op1] at z
        have z := t_op1 (p := .notB) trivial z
        have z : tE G EX false (evE g (.ieq m (rec .opd C l) (rec .opd C r))) σ H (fun v H1 => ∃ b, v = .bl b ∧ ∃ k, V.bl (!b) = .bl k ∧ Q k H1) := z
        rw [e_ieq] at z
        have z2 := t_ieq (n := ncT (rec .opd C l)) (m := ncT (rec .opd C r)) h.pf.K.symm hM (rt_or c.1) z
        refine wpAny_isTrue_Compare1 (thn ((hr l).run pins s σ H _ I z2) fun v s1 ⟨x, H1, I1, r1, q1⟩ => thn ((hr r).run pins s1 σ H1 _ I1 q1) fun u s2 ⟨y, H2, I2, r2, q2⟩ =>
          thn (run_ne (Q := fun v H1 => ∃ k, v = .bl k ∧ Q k H1) h.tk (h.rmc hc) I2 r1 r2 (h.pf.eqn m hm) q2) fun cc s3 ⟨zz, H3, I3, r3, k, e, q3⟩ => ?_) c.2
        subst e
        cases r3
        exact wpAny_truthy_bool ⟨H3, I3, q3⟩
      · exact bad _
    · exact pt_cmpAll h hr
  · exact pt_cmpAll h hr
theorem s_tst (h : XOk P G g k C X EX) (hr : ∀ md e, Snd G g X EX md e (rec md C e)) (e : Expr) : Snd G g X EX .tst e (cTst P rec C e) := by
  show PT X e (tT G EX (ncT (cTst P rec C e)) (evT g (cTst P rec C e)))
  have gen : (∀ op vs pos, e ≠ .BoolOp op vs pos) → (∀ a pos, e ≠ .UnaryOp .Not a pos) → (∀ l ops cs pos, e ≠ .Compare l ops cs pos) → (∀ t a b pos, e ≠ .IfExp t a b pos) → PT X e (tT G EX (ncT (.tru (rec .opd C e))) (evT g (.tru (rec .opd C e)))) := fun h1 h2 h3 h4 => by
    refine PT.imp (pt_truth (hr .opd e) (truth_of h1 h2 h3 h4)) fun σ H Q z => ?_
    have e0 : evT g (.tru (rec .opd C e)) = fun en => (evE g (rec .opd C e) en).bind kTru := by funext en; rw [evT]; try rfl
    rw [e0] at z
    rw [← h.pf.K]
    exact t_tru z
  cases e with
  | UnaryOp op a pos =>
    cases op with
    | Not =>
      refine PT.imp (pt_not (hr .tst a)) fun σ H Q z => ?_
      have e0 : evT g (.notT (rec .tst C a)) = fun en => (evT g (rec .tst C a) en).bind fun k en => .ok (!k) en := by funext en; rw [evT]; try rfl
      rw [cTst, e0] at z
      exact t_not z
    | _ => exact gen nofun nofun nofun nofun
  | BoolOp op vs pos =>
    rw [cTst]
    cases vs with
    | nil => rw [cBt]; exact pt_nil
    | cons a r => exact (s_bt h (fun e => hr .tst e) (by simp)).pt
  | Compare l ops cs pos => exact pt_cmpI h (fun e => hr .opd e)
  | IfExp t a b pos => exact pt_nil
  | _ => exact gen nofun nofun nofun nofun
end
end RF
set_option maxHeartbeats 1000000
namespace RF
open PySem PySem.Spec PyProof.Rows L2 Evl
section
variable {P : PTab} {G : Gr} {g : RF.Gl} {k : Nat} {C : CC} {X : Cx} {EX : WX} {rec : Md → CC → Expr → T} {n : Nat}
theorem opt_map {o : Option T} {f : T → T} {Pr : T → Prop} (h0 : Pr .nop) (h : ∀ t, o = some t → Pr (f t)) : Pr (opt (o.map f)) := by
  cases o with
  | none => exact h0
  | some t => exact h t rfl
theorem opd_all (hr : ∀ md e, Snd G g X EX md e (rec md C e)) {es : List Expr} : ∀ e ∈ es, Snd G g X EX .opd e (rec .opd C e) := fun e _ => hr .opd e
theorem s_callF (h : XOk P G g k C X EX) (hc : C.calm = true) (hr : ∀ md e, Snd G g X EX md e (rec md C e)) {x : Str} {p pos : Pos} {args : List Expr} {i : Nat} {as : T} (hg : isGl C x = true) (hp : plainEs args = true) (hf : P.fn.lookup x = some i) (ha : argsT (args.map (rec .opd C)) = some as) :
    PE X (.Call (.Name x p) args [] pos) (tE G EX (ncT (.call i as)) (evE g (.call i as))) := by
  obtain ⟨h1, h2⟩ := isGl_ok h hg
  obtain ⟨fa, hm, F⟩ := (h.pc hc).fn x i hf
  obtain ⟨fd, ps, np, k1, k2, k3⟩ := F.ex
  obtain ⟨pa, nilq, _⟩ := s_args (.inl rfl) hp (opd_all hr) ha
  have e2 : evE g (.call i as) = fun en => (evA g as en).bind (callR g.sem i) := by funext en; rw [evE]
  rw [e2]
  exact s_call h.tk k1 (h.rm0 hc) h1 hm F.kp k2 h2 k3 hp pa fun q => by
    rw [nilq q]
    funext en; rw [evA]
theorem s_callC (h : XOk P G g k C X EX) (hc : C.calm = true) (hr : ∀ md e, Snd G g X EX md e (rec md C e)) {x : Str} {p pos : Pos} {args : List Expr} {c : Nat} {as : T} (hg : isGl C x = true) (hp : plainEs args = true) (hf : P.cl.lookup x = some c) (hk : c ∈ P.mks) (ha : argsT (args.map (rec .opd C)) = some as) :
    PE X (.Call (.Name x p) args [] pos) (tE G EX (ncT (.mak c as)) (evE g (.mak c as))) := by
  obtain ⟨h1, h2⟩ := isGl_ok h hg
  have hm := h.pf.cl x c hf
  obtain ⟨i, fa, hi, M, F⟩ := (h.pc hc).mkr c hk
  obtain ⟨fd, ps, np, k1, k2, k3⟩ := F.ex
  obtain ⟨pa, nilq, _⟩ := s_args (.inl rfl) hp (opd_all hr) ha
  have e2 : evE g (.mak c as) = fun en => (evA g as en).bind (makR g c) := by funext en; rw [evE]
  have go : ∀ {σ H Q}, tE G EX (ncT (.mak c as)) (evE g (.mak c as)) σ H Q → tMakeS (G.cl c) (spEv G np (g.sem i)) (WE EX) (tA G EX (ncT as) (evA g as)) σ H Q := fun {σ H Q} z => by
    rw [e2] at z
    exact t_args (t' := fun vs H1 Q => ∀ x dx, H1 x = none → H1 dx = none → dx ≠ x → spEv G np (g.sem i) (.ref x :: vs) (upd (upd H1 dx (.own x)) x (.ins (G.cl c) dx [])) (fun v H2 => v = .non ∧ Q (.ref x) H2) (WE EX σ)) (fun hh q x dx q1 q2 q3 => hh.make hi k3 q q1 q2 q3) z
  cases args with
  | nil =>
    rw [nilq rfl] at go ⊢
    refine PE.imp (pe_makeS0 M k1 (h.rmc hc) h1 hm k2 (passAt h.tk) h2) fun σ H Q z => ?_
    have z2 := go z
    refine t_nil (G := G) (EX := EX) (Q := fun vs H1 => ∀ x dx, H1 x = none → H1 dx = none → dx ≠ x → spEv G np (g.sem i) (.ref x :: vs) (upd (upd H1 dx (.own x)) x (.ins (G.cl c) dx [])) (fun v H2 => v = .non ∧ Q (.ref x) H2) (WE EX σ)) ?_
    have e3 : evA g .nil = fun en => .ok [] en := by funext en; rw [evA]
    rw [e3] at z2
    exact z2
  | cons a r =>
    have hp' := hp
    unfold plainEs at hp'
    rw [List.all_cons, Bool.and_eq_true] at hp'
    exact PE.imp (pe_makeS M k1 (h.rmc hc) h1 hm k2 (passAt h.tk) pa h2 (star_cons hp'.1) (star_plain hp'.2 pos)) fun σ H Q z => go z
theorem pa1 {a : Expr} {ta : TE} (ha : PE X a ta) (hp : plainE a = true) : PA X [a] (tCons ta tNil) := pa_cons ha pa_nil (star_cons hp)
theorem pa2 {a b : Expr} {ta tb : TE} (ha : PE X a ta) (hb : PE X b tb) (hp : plainE a = true) (hp2 : plainE b = true) : PA X [a, b] (tCons ta (tCons tb tNil)) := pa_cons ha (pa1 hb hp2) (star_cons hp)
theorem nb_of (h : XOk P G g k C X EX) {x : Str} (m : x ∈ bltN) : X.mg x = none := h.pf.nb x m
theorem b1_cases {x : Str} {p : P1} (h : b1P x = some p) : (x = "len" ∧ p = .len) ∨ (x = "tuple" ∧ p = .tupleOf) ∨ (x = "list" ∧ p = .listOf) ∨ (x = "sorted" ∧ p = .sorted) ∨ (x = "sum" ∧ p = .sum) ∨ (x = "all" ∧ p = .all) ∨ (x = "any" ∧ p = .any) ∨ (x = "int" ∧ p = .intOf) := by
  unfold b1P at h
  split at h
  · rename_i e; cases h; exact .inl ⟨e, rfl⟩
  split at h
  · rename_i e; cases h; exact .inr (.inl ⟨e, rfl⟩)
  split at h
  · rename_i e; cases h; exact .inr (.inr (.inl ⟨e, rfl⟩))
  split at h
  · rename_i e; cases h; exact .inr (.inr (.inr (.inl ⟨e, rfl⟩)))
  split at h
  · rename_i e; cases h; exact .inr (.inr (.inr (.inr (.inl ⟨e, rfl⟩))))
  split at h
  · rename_i e; cases h; exact .inr (.inr (.inr (.inr (.inr (.inl ⟨e, rfl⟩)))))
  split at h
  · rename_i e; cases h; exact .inr (.inr (.inr (.inr (.inr (.inr (.inl ⟨e, rfl⟩))))))
  split at h
  · rename_i e; cases h; exact .inr (.inr (.inr (.inr (.inr (.inr (.inr ⟨e, rfl⟩))))))
  · cases h
theorem s_b1 (h : XOk P G g k C X EX) (hr : ∀ md e, Snd G g X EX md e (rec md C e)) {x : Str} {q pos : Pos} {a : Expr} {p : P1} (hc : C.calm = true) (hg : isGl C x = true) (hp : plainE a = true) (hb : b1P x = some p) :
    PE X (.Call (.Name x q) [a] [] pos) (tE G EX (ncT (.op1 p (rec .opd C a))) (evE g (.op1 p (rec .opd C a)))) := by
  obtain ⟨h1, h2⟩ := isGl_ok h hg
  have ha : PE X a (tE G EX (ncT (rec .opd C a)) (evE g (rec .opd C a))) := hr .opd a
  have st := star_cons (es := []) (env := X.env) hp
  have xc := h.calm hc
  rcases b1_cases hb with ⟨rfl, rfl⟩ | ⟨rfl, rfl⟩ | ⟨rfl, rfl⟩ | ⟨rfl, rfl⟩ | ⟨rfl, rfl⟩ | ⟨rfl, rfl⟩ | ⟨rfl, rfl⟩ | ⟨rfl, rfl⟩
  · exact s_op1 h trivial (pe_callB (call_len_seq.or cr_lenN) h1 (nb_of h (by decide)) boot_len (pa1 ha hp) (by decide) h2 st)
  · exact s_op1 h trivial (pe_callTy call_tuple_of h1 (nb_of h (by decide)) boot_tuple (pa1 ha hp) (by decide) h2 st)
  · exact s_op1 h trivial (pe_callTy (call_list_of.or (call_listKD xc)) h1 (nb_of h (by decide)) boot_list (pa1 ha hp) (by decide) h2 st)
  · exact s_op1 h trivial (pe_callB ((cr_sortP h.hu).or (cr_sortD xc h.hu)) h1 (nb_of h (by decide)) boot_sorted (pa1 ha hp) (by decide) h2 st)
  · exact s_op1 h trivial (pe_callB (cr_sum xc) h1 (nb_of h (by decide)) boot_sum (pa1 ha hp) (by decide) h2 st)
  · exact s_op1 h trivial (pe_callB (cr_all xc) h1 (nb_of h (by decide)) boot_all (pa1 ha hp) (by decide) h2 st)
  · exact s_op1 h trivial (pe_callB (cr_any xc) h1 (nb_of h (by decide)) boot_any (pa1 ha hp) (by decide) h2 st)
  · exact s_op1 h trivial (pe_callTy call_int1 h1 (nb_of h (by decide)) boot_int (pa1 ha hp) (by decide) h2 st)
theorem s_b2 (h : XOk P G g k C X EX) (hr : ∀ md e, Snd G g X EX md e (rec md C e)) {x : Str} {q pos : Pos} {a b : Expr} {p : P2} (hc : C.calm = true) (hg : isGl C x = true) (hp : plainE a = true) (hp2 : plainE b = true) (hb : b2P x = some p) (hs : (rtT (rec .opd C a) || ncT (rec .opd C b)) = true) :
    PE X (.Call (.Name x q) [a, b] [] pos) (tE G EX (ncT (.op2 p (rec .opd C a) (rec .opd C b))) (evE g (.op2 p (rec .opd C a) (rec .opd C b)))) := by
  obtain ⟨h1, h2⟩ := isGl_ok h hg
  have ha : PE X a (tE G EX (ncT (rec .opd C a)) (evE g (rec .opd C a))) := hr .opd a
  have hb' : PE X b (tE G EX (ncT (rec .opd C b)) (evE g (rec .opd C b))) := hr .opd b
  have st := star_cons (es := [b]) (env := X.env) hp
  have pl := star_plain (env := X.env) (es := [b]) (by unfold plainEs; simp [hp2]) pos
  have xc := h.calm hc
  unfold b2P at hb
  split at hb
  · rename_i e
    cases hb
    subst e
    exact s_op2 h hs (pe_callB (call_min2 xc) h1 (nb_of h (by decide)) boot_min (pa2 ha hb' hp hp2) (by decide) h2 st pl)
  split at hb
  · rename_i e
    cases hb
    subst e
    exact s_op2 h hs (pe_callB (call_max2 xc) h1 (nb_of h (by decide)) boot_max (pa2 ha hb' hp hp2) (by decide) h2 st pl)
  · cases hb
theorem ty_cases {x : Str} {t : Ty} (h : tyP x = some t) : x = (tyS t : Str) ∧ (tyS t : Str) ∈ bltN ∧ bootBuiltins (tyS t : Str) = some (.type (tyS t)) ∧ ((tyS t : Str) ≠ "__name__") := by
  unfold tyP at h
  split at h
  · rename_i e; cases h; exact ⟨e, by decide, boot_int, by decide⟩
  split at h
  · rename_i e; cases h; exact ⟨e, by decide, boot_bool, by decide⟩
  split at h
  · rename_i e; cases h; exact ⟨e, by decide, boot_str, by decide⟩
  split at h
  · rename_i e; cases h; exact ⟨e, by decide, boot_tuple, by decide⟩
  split at h
  · rename_i e; cases h; exact ⟨e, by decide, boot_list, by decide⟩
  split at h
  · rename_i e; cases h; exact ⟨e, by decide, boot_dict, by decide⟩
  · cases h
theorem s_isi (h : XOk P G g k C X EX) (hr : ∀ md e, Snd G g X EX md e (rec md C e)) {q pos py : Pos} {a : Expr} {y : Str} {p : P1} {v : V} (hg : isGl C "isinstance" = true) (hp : plainE a = true) (hy : PE X (.Name y py) (tC v)) (hok : okP1 G p) (hr1 : r1 X.K G.cl p = fun x => rIsi X.K [x, v]) :
    PE X (.Call (.Name "isinstance" q) [a, .Name y py] [] pos) (tE G EX (ncT (.op1 p (rec .opd C a))) (evE g (.op1 p (rec .opd C a)))) := by
  obtain ⟨h1, h2⟩ := isGl_ok h hg
  have ha : PE X a (tE G EX (ncT (rec .opd C a)) (evE g (rec .opd C a))) := hr .opd a
  have st := star_cons (es := [.Name y py]) (env := X.env) hp
  refine s_op1 h hok ?_
  rw [hr1]
  exact pe_callB call_isi h1 (nb_of h (by decide)) boot_isinstance (pa2 ha hy hp rfl) (by decide) h2 st
theorem s_isiT (h : XOk P G g k C X EX) (hr : ∀ md e, Snd G g X EX md e (rec md C e)) {q pos py : Pos} {a : Expr} {y : Str} {t : Ty} (hg : isGl C "isinstance" = true) (hp : plainE a = true) (hy : isGl C y = true) (ht : tyP y = some t) :
    PE X (.Call (.Name "isinstance" q) [a, .Name y py] [] pos) (tE G EX (ncT (.op1 (.isT t P.cs) (rec .opd C a))) (evE g (.op1 (.isT t P.cs) (rec .opd C a)))) := by
  obtain ⟨h1, h2⟩ := isGl_ok h hy
  obtain ⟨rfl, h3, h4, h5⟩ := ty_cases ht
  exact s_isi h hr hg hp (v := .ty (tyS t)) (pe_bltn h1 (nb_of h h3) h4 rfl h5 h2) h.pf.cs rfl
theorem s_isiC (h : XOk P G g k C X EX) (hr : ∀ md e, Snd G g X EX md e (rec md C e)) {q pos py : Pos} {a : Expr} {y : Str} {c : Nat} (hg : isGl C "isinstance" = true) (hp : plainE a = true) (hy : isGl C y = true) (ht : P.cl.lookup y = some c) (hc : c ∈ P.cs) :
    PE X (.Call (.Name "isinstance" q) [a, .Name y py] [] pos) (tE G EX (ncT (.op1 (.isC c P.cs) (rec .opd C a))) (evE g (.op1 (.isC c P.cs) (rec .opd C a)))) := by
  obtain ⟨h1, h2⟩ := isGl_ok h hy
  exact s_isi h hr hg hp (v := .ref (G.cl c)) (pe_glob h1 (h.pf.cl y c ht) rfl h2) ⟨hc, h.pf.cs⟩ rfl
theorem s_xis (h : XOk P G g k C X EX) {q pos : Pos} {a b : Expr} {i d : Nat} (hg : isGl C "isinstance" = true) (hi : errIx C a = some i) (hd : errC P C b = some d) :
    PE X (.Call (.Name "isinstance" q) [a, b] [] pos) (tE G EX (ncT (.xis i [d])) (evE g (.xis i [d]))) := by
  obtain ⟨h1, h2⟩ := isGl_ok h hg
  unfold errIx at hi
  split at hi
  case h_2 => cases hi
  rename_i y py
  split at hi
  case isFalse => cases hi
  rename_i hy
  rw [Bool.and_eq_true, Bool.not_eq_true'] at hy
  have ha : PE X (.Name y py) (tVar i) := s_var h hi
  -- the class
  obtain ⟨v, hb, hpb, hcv, hdm⟩ : ∃ v : V, PE X b (tC v) ∧ plainE b = true ∧ (∀ u, RelV v u → u = codeV G d) ∧ d ∈ P.xd := by
    unfold errC at hd
    split at hd
    case h_2 => cases hd
    rename_i z pz
    split at hd
    case isFalse => cases hd
    rename_i hz
    obtain ⟨k1, k2⟩ := isGl_ok h hz
    split at hd
    · rename_i c hc
      split at hd
      case isFalse => cases hd
      rename_i hx
      rw [Bool.and_eq_true, decide_eq_true_eq] at hx
      obtain rfl : c = d := Option.some.inj hd
      refine ⟨.ref (G.cl c), pe_glob k1 (h.pf.cl z c hc) rfl k2, rfl, fun u r => ?_, by simpa using hx.1⟩
      unfold codeV
      rw [if_neg hx.2]
      cases r; rfl
    · split at hd
      case isFalse => cases hd
      rename_i hx
      rw [Bool.and_eq_true, decide_eq_true_eq] at hx
      cases hd
      obtain ⟨rfl, hx2⟩ := hx
      refine ⟨.ty "ValueError", pe_bltn k1 (nb_of h (by decide)) boot_ValueError rfl (by decide) k2, rfl, fun u r => ?_, by simpa using hx2⟩
      cases r; rfl
  have st := star_cons (es := [b]) (env := X.env) (show plainE (.Name y py) = true from rfl)
  have pl := star_plain (env := X.env) (es := [b]) (by unfold plainEs; simp [hpb]) pos
  refine ⟨fun pins s σ H Q J z => ?_⟩
  obtain ⟨I, e, F, w, q1⟩ := z
  rw [evE] at q1
  cases he : e[i]? with
  | none => rw [he] at q1; exact q1.elim
  | some sl =>
    rw [he] at q1
    cases sl with
    | exn c fs =>
      obtain ⟨u, F1, Fi, F2, hu, hs, _⟩ := w.env.at he (by simp)
      cases hs with
      | @exn a c' fs' hxa =>
        obtain ⟨hx1, hx2⟩ := h.xa hy.2 a c hxa
        refine (pe_callB hx2 h1 (nb_of h (by decide)) boot_isinstance (pa2 ha hb rfl hpb) (by decide) h2 st pl).run pins s σ H Q J ?_
        refine ⟨_, hu, v, codeV G d, g.sub c d, rfl, hcv, h.pf.kit c d hx1 hdm, ?_⟩
        have q2 : PostE G EX true (.ok (.sl (.val (.bl (g.sub c d || false)))) e) I H F σ Q := q1
        rw [Bool.or_false] at q2
        exact q2 (.bl (g.sub c d)) I H F [] (Stp.refl _) w (.sl (.val (.bl _))) w.nd fun a ha => nomatch ha
    | _ => exact q1.elim
theorem ok_stpP {G : Gr} {lo : Option Expr} {st : Expr} {p : P1} (h : stpP lo st = some p) : okP1 G p := by
  unfold stpP at h
  split at h
  · split at h
    · cases h; trivial
    · cases h
  · split at h
    · cases h; trivial
    · cases h
  · cases h; trivial
  · cases h
theorem pe_stpP {X : Cx} {cl : Nat → Addr} {e : Expr} {te : TE} {lo : Option Expr} {st : Expr} {p : P1} {p2 pos : Pos} (h : stpP lo st = some p) (he : PE X e te) : PE X (.Subscript e (.Slice lo none (some st) p2) pos) (tUn (r1 X.K cl p) te) := by
  unfold stpP at h
  split at h
  · split at h
    · rename_i c
      cases h
      exact pe_stp he po_none c.1 c.2
    · cases h
  · split at h
    · rename_i c
      cases h
      refine pe_stp he ⟨fun pins s σ H Q I hq => (po_some pe_int).run pins s σ H Q I ⟨_, rfl, hq⟩⟩ c.1 c.2
    · cases h
  · cases h
    refine PE.imp (pe_revL he) fun σ H Q z => z
  · cases h
theorem isRange_of {e : Expr} {es : List Expr} (h : isRange C e = some es) : isGl C "range" = true ∧ plainEs es = true ∧ ∃ p pos, e = .Call (.Name "range" p) es [] pos ∧ (es.length = 1 ∨ es.length = 2) := by
  unfold isRange at h
  split at h
  · split at h
    · rename_i c
      rw [Bool.and_eq_true, Bool.and_eq_true, decide_eq_true_eq] at c
      cases h
      obtain ⟨⟨rfl, c2⟩, c3⟩ := c
      exact ⟨c2, by simp [plainEs, c3], _, _, rfl, .inl rfl⟩
    · cases h
  · split at h
    · rename_i c
      rw [Bool.and_eq_true, Bool.and_eq_true, Bool.and_eq_true, decide_eq_true_eq] at c
      cases h
      obtain ⟨⟨⟨rfl, c2⟩, c3⟩, c4⟩ := c
      exact ⟨c2, by simp [plainEs, c3, c4], _, _, rfl, .inr rfl⟩
    · cases h
  · cases h
theorem e_irng {as : T} : evI g (.irng as) = fun en => (evA g as en).bind kRng := by funext en; rw [evI]
theorem big62 : big < 2 ^ 62 := by decide
theorem s_rng (h : XOk P G g k C X EX) (hr : ∀ md e, Snd G g X EX md e (rec md C e)) {e tg : Expr} {es : List Expr} {as : T} (hi : isRange C e = some es) (ha : argsT (es.map (rec .opd C)) = some as) : PI X tg e (tI G EX (ncT (.irng as)) (evI g (.irng as))) := by
  obtain ⟨hg, hp, p, pos, rfl, hl⟩ := isRange_of hi
  obtain ⟨h1, h2⟩ := isGl_ok h hg
  obtain ⟨pa, _, hcnt⟩ := s_args (.inl rfl) hp (opd_all hr) ha
  have b62 := big62
  rcases hl with hl | hl
  · match es, hl with
    | [a], _ =>
      have hp' : plainE a = true := by simpa [plainEs] using hp
      refine PI.imp (pi_range1 h1 (nb_of h (by decide)) pa (by rw [star_cons hp']; rfl)) fun σ H R z => ?_
      rw [e_irng] at z
      have z2 := it_rng z
      obtain ⟨I, en, F, w, q⟩ := z2
      refine ⟨I, en, F, w, ?_⟩
      cases zf : evA g as en with
      | exc x e' => rw [zf] at q; exact q
      | bad => rw [zf] at q; exact q
      | ok xs e1 =>
        rw [zf] at q
        intro vs I' H' F' Fs st w' ev nd fr
        have hlen : vs.length = 1 := by rw [ev.length, evA_len zf, hcnt]; rfl
        rcases q vs I' H' F' Fs st w' ev nd fr with ⟨j, rfl, c1, c2, r⟩ | ⟨i, j, rfl, c, r⟩
        · exact ⟨j, rfl, by unfold big at *; omega, by unfold big at *; omega, r⟩
        · cases hlen
  · match es, hl with
    | [a, b], _ =>
      have hp' : plainE a = true ∧ plainE b = true := by simpa [plainEs] using hp
      have sb := star_cons (es := []) (env := X.env) hp'.2
      refine PI.imp (pi_range2 h1 (nb_of h (by decide)) pa (by rw [star_cons hp'.1, sb]; rfl) (by rw [sb]; rfl)) fun σ H R z => ?_
      rw [e_irng] at z
      have z2 := it_rng z
      obtain ⟨I, en, F, w, q⟩ := z2
      refine ⟨I, en, F, w, ?_⟩
      cases zf : evA g as en with
      | exc x e' => rw [zf] at q; exact q
      | bad => rw [zf] at q; exact q
      | ok xs e1 =>
        rw [zf] at q
        intro vs I' H' F' Fs st w' ev nd fr
        have hlen : vs.length = 2 := by rw [ev.length, evA_len zf, hcnt]; rfl
        rcases q vs I' H' F' Fs st w' ev nd fr with ⟨j, rfl, c1, c2, r⟩ | ⟨i, j, rfl, c, r⟩
        · cases hlen
        · exact ⟨i, j, rfl, by unfold big at *; omega, r⟩
theorem isRange3_of {e : Expr} {es : List Expr} (h : isRange3 C e = some es) : isGl C "range" = true ∧ ∃ a b c p pos, es = [a, b, c] ∧ e = .Call (.Name "range" p) [a, b, c] [] pos ∧ (plainE a = true ∧ plainE b = true ∧ plainE c = true) := by
  unfold isRange3 at h
  split at h
  · split at h
    · rename_i c
      rw [Bool.and_eq_true, Bool.and_eq_true, Bool.and_eq_true, Bool.and_eq_true, decide_eq_true_eq] at c
      cases h
      obtain ⟨⟨⟨⟨rfl, c2⟩, c3⟩, c4⟩, c5⟩ := c
      exact ⟨c2, _, _, _, _, _, rfl, rfl, c3, c4, c5⟩
    · cases h
  · cases h
theorem e_irn3 {as : T} : evI g (.irn3 as) = fun en => (evA g as en).bind kRng3 := by funext en; rw [evI]
theorem s_rng3 (h : XOk P G g k C X EX) (hr : ∀ md e, Snd G g X EX md e (rec md C e)) {e tg : Expr} {es : List Expr} {as : T} (hi : isRange3 C e = some es) (ha : argsT (es.map (rec .opd C)) = some as) : PI X tg e (tI G EX (ncT (.irn3 as)) (evI g (.irn3 as))) := by
  obtain ⟨hg, a, b, c, p, pos, rfl, rfl, hp⟩ := isRange3_of hi
  obtain ⟨h1, h2⟩ := isGl_ok h hg
  obtain ⟨pa, _, hcnt⟩ := s_args (.inl rfl) (es := [a, b, c]) (by simp [plainEs, hp.1, hp.2.1, hp.2.2]) (opd_all hr) ha
  have sc := star_cons (es := []) (env := X.env) hp.2.2
  have sb := star_cons (es := [c]) (env := X.env) hp.2.1
  refine PI.imp (pi_range3 h1 (nb_of h (by decide)) pa (by rw [star_cons hp.1]) (by rw [sb, sc]; rfl)) fun σ H R z => ?_
  rw [e_irn3] at z
  exact it_rng3 z
theorem rgV_rep {I : Hp} (a b : Int) : RepL G I (rgV a b) (rngV a b) := by
  unfold rgV rngV
  induction (List.range (b - a).toNat) with
  | nil => exact .nil
  | cons x r ih => exact .cons (.int _) ih
theorem lim24 : lim ≤ 2 ^ 24 := by decide
theorem t_lrng {as : T} {nc : Bool} {σ : L2.St} {H : Hp} {Q : VK} (z : tE G EX nc (evE g (.lrng as)) σ H Q) : tA G EX nc (evA g as) σ H fun vs H1 => ∃ a b : Int, (vs = [.int b] ∧ a = 0 ∨ vs = [.int a, .int b]) ∧ RgOk a b ∧ ∀ q, H1 q = none → Q (.ref q) (upd H1 q (.lst (rgV a b))) := by
  have e2 : evE g (.lrng as) = fun en => (evA g as en).bind kLrng := by funext en; rw [evE]
  rw [e2] at z
  refine t_args (t' := fun vs H1 Q => ∃ a b : Int, (vs = [.int b] ∧ a = 0 ∨ vs = [.int a, .int b]) ∧ RgOk a b ∧ ∀ q, H1 q = none → Q (.ref q) (upd H1 q (.lst (rgV a b)))) (fun {I H F I1 H1 F1 Fs vs xs e1 Q} h q => ?_) z
  unfold kLrng at q
  cases zv : valsOf e1 xs with
  | none => rw [zv] at q; exact q.elim
  | some ps =>
    rw [zv] at q
    dsimp only at q
    cases zr : rngOf ps with
    | none => rw [zr] at q; exact q.elim
    | some ys =>
      rw [zr] at q
      dsimp only at q
      by_cases c : ys.length ≤ lim
      · rw [if_pos c] at q
        have b := h.ev.b h.w zv
        have b62 := big62
        have l24 := lim24
        have len : ∀ a b : Int, (rngV a b).length = (b - a).toNat := fun a b => by simp [rngV]
        rcases rng_cases zr with ⟨j, rfl, rfl, c1, c2⟩ | ⟨i, j, rfl, rfl, cc⟩
        · obtain ⟨v, rfl, bv⟩ := b.one
          rw [len] at c
          refine ⟨0, j, .inl ⟨by rw [bv.to_int], rfl⟩, ⟨by decide, by decide, by unfold big at *; omega, by unfold big at *; omega, Nat.le_trans c l24⟩, fun a ha => (h.fin q).lst h.w.ex (rgV_rep 0 j) ha⟩
        · obtain ⟨v, u, rfl, bv, bu⟩ := b.two
          rw [len] at c
          refine ⟨i, j, .inr (by rw [bv.to_int, bu.to_int]), ⟨by unfold big at *; omega, by unfold big at *; omega, by unfold big at *; omega, by unfold big at *; omega, Nat.le_trans c l24⟩, fun a ha => (h.fin q).lst h.w.ex (rgV_rep i j) ha⟩
      · rw [if_neg c] at q; exact q.elim
theorem t_trng {as : T} {nc : Bool} {σ : L2.St} {H : Hp} {Q : VK} (z : tE G EX nc (evE g (.trng as)) σ H Q) : tA G EX nc (evA g as) σ H fun vs H1 => ∃ a b : Int, (vs = [.int b] ∧ a = 0 ∨ vs = [.int a, .int b]) ∧ RgOk a b ∧ ∀ q, H1 q = none → Q (.ref q) (upd H1 q (.tup (rgV a b))) := by
  have e2 : evE g (.trng as) = fun en => (evA g as en).bind kTrng := by funext en; rw [evE]
  rw [e2] at z
  refine t_args (t' := fun vs H1 Q => ∃ a b : Int, (vs = [.int b] ∧ a = 0 ∨ vs = [.int a, .int b]) ∧ RgOk a b ∧ ∀ q, H1 q = none → Q (.ref q) (upd H1 q (.tup (rgV a b)))) (fun {I H F I1 H1 F1 Fs vs xs e1 Q} h q => ?_) z
  unfold kTrng at q
  cases zv : valsOf e1 xs with
  | none => rw [zv] at q; exact q.elim
  | some ps =>
    rw [zv] at q
    dsimp only at q
    cases zr : rngOf ps with
    | none => rw [zr] at q; exact q.elim
    | some ys =>
      rw [zr] at q
      dsimp only at q
      by_cases c : ys.length ≤ lim
      · rw [if_pos c] at q
        have b := h.ev.b h.w zv
        have b62 := big62
        have l24 := lim24
        have len : ∀ a b : Int, (rngV a b).length = (b - a).toNat := fun a b => by simp [rngV]
        rcases rng_cases zr with ⟨j, rfl, rfl, c1, c2⟩ | ⟨i, j, rfl, rfl, cc⟩
        · obtain ⟨v, rfl, bv⟩ := b.one
          rw [len] at c
          refine ⟨0, j, .inl ⟨by rw [bv.to_int], rfl⟩, ⟨by decide, by decide, by unfold big at *; omega, by unfold big at *; omega, Nat.le_trans c l24⟩, fun a ha => (h.fin q).tup h.w.ex (rgV_rep 0 j) ha⟩
        · obtain ⟨v, u, rfl, bv, bu⟩ := b.two
          rw [len] at c
          refine ⟨i, j, .inr (by rw [bv.to_int, bu.to_int]), ⟨by unfold big at *; omega, by unfold big at *; omega, by unfold big at *; omega, by unfold big at *; omega, Nat.le_trans c l24⟩, fun a ha => (h.fin q).tup h.w.ex (rgV_rep i j) ha⟩
      · rw [if_neg c] at q; exact q.elim
theorem prg_all {e : Expr} {es : List Expr} {t : TA} {p pos : Pos} (hg : L2.Gl X "range") (hm : X.mg "range" = none) (ha : PA X (e :: es) t) (he : starEach (e :: es) X.env = (false, eval e X.env) :: starEach es X.env) (hpl : (backTo pos (starEach es X.env)).any (·.1) = false) :
    PRg X (.Call (.Name "range" p) (e :: es) [] pos) (fun σ H Q => t σ H fun vs H1 => ∃ a b : Int, (vs = [.int b] ∧ a = 0 ∨ vs = [.int a, .int b]) ∧ Q a b H1) := by
  intro pins s σ H Q I h
  refine Call_ (ld_blt I hg hm boot_range (PyProof.Rows.callWith_type1 (thn (ha.run pos pins s σ H _ I h) fun us s1 ⟨vs, H1, I1, r1, q1⟩ => ?_) he hpl))
  obtain ⟨a, b, hv, q⟩ := q1
  rcases hv with ⟨rfl, rfl⟩ | rfl
  · obtain ⟨u, rfl, t, rfl⟩ := vals1 r1
    exact call_range_1 ⟨_, 0, b, _, _, _, H1, rfl, IsRange.new _ _ _ _ _ _ _, I1.kept fun b u e => Heap.get?_push_of_some _ e, q⟩
  · obtain ⟨u, w', rfl, ⟨t, rfl⟩, t', rfl⟩ := vals2 r1
    exact call_range_2 ⟨_, a, b, _, _, _, H1, rfl, IsRange.new _ _ _ _ _ _ _, I1.kept fun b u e => Heap.get?_push_of_some _ e, q⟩
theorem s_lrng (h : XOk P G g k C X EX) (hr : ∀ md e, Snd G g X EX md e (rec md C e)) {q pos : Pos} {a : Expr} {es : List Expr} {as : T} (hc : C.calm = true) (hg : isGl C "list" = true) (hi : isRange C a = some es) (ha : argsT (es.map (rec .opd C)) = some as) :
    PE X (.Call (.Name "list" q) [a] [] pos) (tE G EX (ncT (.lrng as)) (evE g (.lrng as))) := by
  obtain ⟨hgr, hp, p, pos2, rfl, hl⟩ := isRange_of hi
  obtain ⟨h1, h2⟩ := isGl_ok h hgr
  obtain ⟨k1, k2⟩ := isGl_ok h hg
  obtain ⟨pa, _, _⟩ := s_args (.inl rfl) hp (opd_all hr) ha
  cases es with
  | nil => rcases hl with hl | hl <;> cases hl
  | cons e es =>
    have hp' := hp
    unfold plainEs at hp'
    rw [List.all_cons, Bool.and_eq_true] at hp'
    refine PE.imp (pe_listRg (h.calm hc) k1 (nb_of h (by decide)) (prg_all h1 (nb_of h (by decide)) pa (star_cons hp'.1) (star_plain hp'.2 pos2)) rfl) fun σ H Q z => ?_
    have z2 := t_lrng z
    obtain ⟨I, en, F, w, q⟩ := z2
    refine ⟨I, en, F, w, ?_⟩
    have e3 : ncT (.lrng as) = ncT as := rfl
    rw [e3] at q
    cases zf : evA g as en with
    | exc x e' => rw [zf] at q; exact q
    | bad => rw [zf] at q; exact q
    | ok xs e1 =>
      rw [zf] at q
      intro vs I' H' F' Fs st w' ev nd fr
      exact q vs I' H' F' Fs st w' ev nd fr
theorem s_trng (h : XOk P G g k C X EX) (hr : ∀ md e, Snd G g X EX md e (rec md C e)) {q pos : Pos} {a : Expr} {es : List Expr} {as : T} (hc : C.calm = true) (hg : isGl C "tuple" = true) (hi : isRange C a = some es) (ha : argsT (es.map (rec .opd C)) = some as) :
    PE X (.Call (.Name "tuple" q) [a] [] pos) (tE G EX (ncT (.trng as)) (evE g (.trng as))) := by
  obtain ⟨hgr, hp, p, pos2, rfl, hl⟩ := isRange_of hi
  obtain ⟨h1, h2⟩ := isGl_ok h hgr
  obtain ⟨k1, k2⟩ := isGl_ok h hg
  obtain ⟨pa, _, _⟩ := s_args (.inl rfl) hp (opd_all hr) ha
  cases es with
  | nil => rcases hl with hl | hl <;> cases hl
  | cons e es =>
    have hp' := hp
    unfold plainEs at hp'
    rw [List.all_cons, Bool.and_eq_true] at hp'
    refine PE.imp (pe_tupRg (h.calm hc) k1 (nb_of h (by decide)) (prg_all h1 (nb_of h (by decide)) pa (star_cons hp'.1) (star_plain hp'.2 pos2)) rfl) fun σ H Q z => ?_
    have z2 := t_trng z
    obtain ⟨I, en, F, w, q⟩ := z2
    refine ⟨I, en, F, w, ?_⟩
    have e3 : ncT (.trng as) = ncT as := rfl
    rw [e3] at q
    cases zf : evA g as en with
    | exc x e' => rw [zf] at q; exact q
    | bad => rw [zf] at q; exact q
    | ok xs e1 =>
      rw [zf] at q
      intro vs I' H' F' Fs st w' ev nd fr
      exact q vs I' H' F' Fs st w' ev nd fr
theorem s_call0 (h : XOk P G g k C X EX) (hr : ∀ md e, Snd G g X EX md e (rec md C e)) {x : Str} {q pos : Pos} {args : List Expr} : PE X (.Call (.Name x q) args [] pos) (tE G EX (ncT (cCall P rec C x args)) (evE g (cCall P rec C x args))) := by
  unfold cCall
  split
  · rename_i c
    rw [Bool.and_eq_true] at c
    obtain ⟨c1, c2⟩ := c
    split
    · rename_i i hi
      by_cases hcalm : C.calm = true
      case neg => rw [if_neg hcalm]; exact pe_nop
      rw [if_pos hcalm]
      exact opt_map (Pr := fun t => PE X (.Call (.Name x q) args [] pos) (tE G EX (ncT t) (evE g t))) pe_nop fun as ha => s_callF h hcalm hr c1 c2 hi ha
    · split
      · rename_i cc hcc
        split
        · rename_i hk
          rw [Bool.and_eq_true] at hk
          exact opt_map (Pr := fun t => PE X (.Call (.Name x q) args [] pos) (tE G EX (ncT t) (evE g t))) pe_nop fun as ha => s_callC h hk.2 hr c1 c2 hcc (by simpa using hk.1) ha
        · exact pe_nop
      · split
        · rename_i a
          have hp : plainE a = true := by simpa [plainEs] using c2
          split
          · rename_i es he
            split
            · rename_i hc
              split at he
              · rename_i hx
                subst hx
                exact opt_map (Pr := fun t => PE X (.Call (.Name "list" q) [a] [] pos) (tE G EX (ncT t) (evE g t))) pe_nop fun as ha => s_lrng h hr hc c1 he ha
              · cases he
            · exact pe_nop
          · split
            · rename_i es he
              split
              · rename_i hc
                split at he
                · rename_i hx
                  subst hx
                  exact opt_map (Pr := fun t => PE X (.Call (.Name "tuple" q) [a] [] pos) (tE G EX (ncT t) (evE g t))) pe_nop fun as ha => s_trng h hr hc c1 he ha
                · cases he
              · exact pe_nop
            · split
              · rename_i p hb
                split
                · rename_i hc
                  exact s_b1 h hr hc c1 hp hb
                · exact pe_nop
              · exact pe_nop
        · rename_i a b
          have hp : plainE a = true ∧ plainE b = true := by simpa [plainEs] using c2
          split
          · rename_i p hb
            split
            · rename_i hc
              rw [Bool.and_eq_true] at hc
              exact s_b2 h hr hc.1 c1 hp.1 hp.2 hb hc.2
            · exact pe_nop
          · split
            · rename_i hx
              subst hx
              split
              · rename_i ie hie
                split
                · rename_i de hde
                  exact s_xis h c1 hie hde
                · exact pe_nop
              split
              · rename_i y py
                split
                · rename_i hy
                  split
                  · rename_i d hd
                    split
                    · rename_i hm
                      exact s_isiC h hr c1 hp.1 hy hd (by simpa using hm)
                    · exact pe_nop
                  · split
                    · rename_i t ht
                      exact s_isiT h hr c1 hp.1 hy ht
                    · exact pe_nop
                · exact pe_nop
              · exact pe_nop
            · exact pe_nop
        · exact pe_nop
  · exact pe_nop
theorem s_mutM (h : XOk P G g k C X EX) {o : Expr} {i : Nat} {r : List Nat} {mt : Mut} {apos pos : Pos} {es : List Expr} {as : T} (hpl : PE X o (tPl G i r)) (hb : ∀ f ∈ r, f < ixB) (ho : notCall o = true) (hl : (apos.endLine == pos.line) = true) (hp : plainEs es = true) (hn : es.length < 30)
    (ha : PA X es (tA G EX (ncT as) (evA g as))) (h0 : es = [] → as = .nil) (hs : r = [] ∨ ncT as = true) : PE X (.Call (.Attribute o (mutN mt) apos) es [] pos) (tE G EX (ncT (.mut mt i r.reverse as)) (evE g (.mut mt i r.reverse as))) := by
  have e2 : evE g (.mut mt i r.reverse as) = fun en => if fits mt (getP en i r.reverse) then (evA g as en).bind (kMut mt i r.reverse) else .bad := by funext en; rw [evE]
  have hfit : ∀ {o : Option Slot}, fits mt o = true → ∃ ys, o = some (.olst ys) := fun {o} hf => by
    cases o with
    | none => cases mt <;> cases hf
    | some s => cases mt <;> cases s <;> first | exact ⟨_, rfl⟩ | cases hf
  have go : ∀ {σ H Q}, tE G EX (ncT (.mut mt i r.reverse as)) (evE g (.mut mt i r.reverse as)) σ H Q → tPl G i r σ H fun x H1 => tyV X.K "list" x H1 ∧ tA G EX (ncT as) (evA g as) σ H1 fun xs H2 => rM X.K mt x xs H2 Q := fun {σ H Q} z => by
    rw [e2] at z
    obtain ⟨I, en, F, w, q⟩ := z
    try dsimp only at q
    by_cases c : fits mt (getP en i r.reverse) = true
    · rw [if_pos c] at q
      obtain ⟨ys, hys⟩ := hfit c
      obtain ⟨u, A, Ft, B, pth, hs', _⟩ := w.get hys (by simp)
      refine pl_go h.pf.att hb pth ⟨?_, (Hld.start w).evals (m := ncT as) (fun x hx => nomatch hx) ?_⟩
      · cases hs' with
        | olst hh rr => exact .inl ⟨rfl, _, sq_of hh⟩
      · cases za : evA g as en with
        | exc x e' => rw [za] at q; exact q
        | bad => rw [za] at q; exact q
        | ok xs e1 =>
          rw [za] at q
          intro vs I1 H1 Gs F1 h1 _
          rw [← h.pf.K]
          exact h1.mut (pth.keep (by
            rcases hs with rfl | hm
            · exact .inl rfl
            · exact .inr (h1.stp.keep (by rw [hm]; rfl)))) q
    · rw [if_neg c] at q; exact q.elim
  cases es with
  | nil =>
    refine PE.imp (pe_bm0 PySem.F.plainAttrs_list (slot_M mt) (type_M mt) (mt_M mt) hpl (base_of ho) hl) fun σ H Q z => ?_
    rw [h0 rfl] at go z
    have z2 := go z
    have conv : ∀ {i : Nat} {r : List Nat} {Q1 Q2 : VK}, (∀ v H, Q1 v H → Q2 v H) → tPl G i r σ H Q1 → tPl G i r σ H Q2 := fun {i r} => by
      induction r with
      | nil => exact fun hq ⟨v, a, b⟩ => ⟨v, a, hq v H b⟩
      | cons f r ih => exact fun {Q1 Q2} hq z => ih (fun v H ⟨a, C, dx, fs, v', h1, h2, h3, h4, h5, h6⟩ => ⟨a, C, dx, fs, v', h1, h2, h3, h4, h5, hq v' H h6⟩) z
    refine conv (fun v H1 ⟨q1, q2⟩ => ⟨q1, ?_⟩) z2
    have e3 : evA g .nil = fun en => .ok [] en := by funext en; rw [evA]
    rw [e3] at q2
    exact t_nil (Q := fun xs H2 => rM X.K mt v xs H2 Q) q2
  | cons e es =>
    have hp' := hp
    unfold plainEs at hp'
    rw [List.all_cons, Bool.and_eq_true] at hp'
    refine PE.imp (pe_bm PySem.F.plainAttrs_list (slot_M mt) (type_M mt) (mt_M mt) hpl ha (base_of ho) ?_ hl (star_cons hp'.1) (star_plain hp'.2 pos)) fun σ H Q z => go z
    rw [star_all hp pos]
    simpa [keywordEach, backToKw] using hn
theorem s_lix (h : XOk P G g k C X EX) {o a : Expr} {apos pos : Pos} {ta tb : T} (hpo : PE X o (tE G EX (ncT ta) (evE g ta))) (ho : notCall o = true) (hl : (apos.endLine == pos.line) = true) (hp : plainE a = true) (ha : PE X a (tE G EX (ncT tb) (evE g tb))) (hs : (rtT ta || ncT tb) = true) :
    PE X (.Call (.Attribute o "index" apos) [a] [] pos) (tE G EX (ncT (.lix ta tb)) (evE g (.lix ta tb))) := by
  have hp1 : plainEs [a] = true := by simp [plainEs, hp]
  refine PE.imp (pe_bm PySem.F.plainAttrs_list PySem.F.slot_list_index PySem.F.type_list_index (mt_indexD (by have := h.hu; omega)) hpo (pa1 ha hp) (base_of ho) (by
    rw [star_all hp1 pos]
    rfl) hl (star_cons hp) rfl) fun σ H Q z => ?_
  have e2 : evE g (.lix ta tb) = fun en => (evE g ta en).bind fun v en => if isLst (valOf en v) then (evE g tb en).bind (kOp2 .index v) else .bad := by funext en; rw [evE]
  rw [e2] at z
  obtain ⟨I, en, F, w, q⟩ := z
  try dsimp only at q
  refine (Hld.start w).eval (m := ncT ta) (fun x hx => nomatch hx) ?_
  cases zf : evE g ta en with
  | exc x e' => rw [zf] at q; exact q
  | bad => rw [zf] at q; exact q
  | ok x e1 =>
    rw [zf] at q
    intro v I1 H1 Gs F1 h1
    have q' : PostE G EX (ncT (.lix ta tb)) (if isLst (valOf e1 x) then (evE g tb e1).bind (kOp2 .index x) else .bad) I H F σ Q := q
    by_cases c : isLst (valOf e1 x) = true
    · rw [if_pos c] at q'
      obtain ⟨_, _, _, hv, _⟩ := h1.ev.hd
      have hval : ∃ ps, valOf e1 x = some (.lst ps) := by
        cases zv : valOf e1 x with
        | none => rw [zv] at c; cases c
        | some p => rw [zv] at c; cases p <;> first | exact ⟨_, rfl⟩ | cases c
      obtain ⟨ps, hps⟩ := hval
      obtain ⟨b, ws, rfl, hh, rr⟩ := (hv.b h1.w hps).to_lst h1.w.ex
      refine ⟨.inl ⟨rfl, ws, sq_of hh⟩, h1.eval (m := ncT tb) (fun x' hx => ?_) ?_⟩
      · rw [List.mem_singleton.mp hx]
        cases x with
        | sl s => trivial
        | pl i fs => exact (rt_or hs).imp (fun r => r _ _ _ _ zf) id
      · cases zg : evE g tb e1 with
        | exc y e' => rw [zg] at q'; exact q'
        | bad => rw [zg] at q'; exact q'
        | ok y e2 =>
          rw [zg] at q'
          intro u I2 H2 Gs2 F2 h2
          have q2 : PostE G EX (ncT ta && ncT tb) (kOp2 .index x y e2) I H F σ Q := q'
          unfold kOp2 at q2
          cases z1 : valOf e2 x with
          | none => rw [z1] at q2; exact q2.elim
          | some pa =>
            cases z2 : valOf e2 y with
            | none => rw [z1, z2] at q2; exact q2.elim
            | some pb =>
              rw [z1, z2] at q2
              obtain ⟨s, hs2, q2⟩ := outO_ok q2
              obtain ⟨_, _, _, hv2, hr2⟩ := h2.ev.hd
              obtain ⟨_, _, _, hu2, _⟩ := hr2.hd
              show rIndexD X.K (.ref b) [u] H2 Q
              rw [← h.pf.K]
              exact val_op2 (p := .index) rfl rfl h2.w.ex hs2 (hv2.b h2.w z1) (hu2.b h2.w z2) (h2.fin q2)
    · rw [if_neg c] at q'; exact q'.elim
theorem pe_tix {X : Cx} {es : List Expr} {a : Expr} {te ta : TA} {kk : Nat} {tpos apos pos : Pos} (he : PA X es te) (ha : PA X [a] ta) (hp : plainE a = true) (hl : (apos.endLine == pos.line) = true) :
    PE X (.Call (.Attribute (.Tuple es kk tpos) "index" apos) [a] [] pos) (fun σ H Q => tTup te σ H fun x H1 => ta σ H1 fun xs H2 => ∃ p, ∃ ys : List Str, ∃ z j, x = .ref p ∧ xs = [.str z] ∧ SqT X.K H2 p (ys.map V.str) ∧ ys[j]? = some z ∧ (∀ m, m < j → ys[m]? ≠ some z) ∧ Q (.int (j : Nat)) H2) := by
  have hp1 : plainEs [a] = true := by simp [plainEs, hp]
  refine ⟨fun pins s σ H Q I hq => ?_⟩
  refine wpAny_Call_method_late (base_of rfl) (by
    rw [star_all hp1 pos]
    rfl) hl rfl ?_
  refine wpAny_Tuple_spliced (thn (he.run _ pins s σ H _ I hq) fun us s1 ⟨xs, H1, I1, r, z, q⟩ => ⟨by rw [← r.length]; exact z, ?_⟩)
  have hf : H1 s1.heap.objs.size = none := I1.hok.fresh (Nat.le_refl _)
  have I2 : Inv X pins σ (upd H1 s1.heap.objs.size (.tup xs)) { s1 with heap := s1.heap.push { cls := .type "tuple", data := .seq us.toArray } } := I1.laid (t' := s1.toks) (fun b u e => Heap.get?_push_of_some _ e) (Nat.le_refl _) ⟨z, us, r, ⟨_, Heap.get?_push_size _ rfl, rfl, _, rfl⟩⟩
  have q2 := q _ hf
  refine ⟨"tuple", _, PySem.F.plainAttrs_tuple, PySem.F.slot_tuple_index, PySem.F.type_tuple_index, ⟨_, Heap.get?_push_size _ rfl, rfl⟩, fun b e => ?_, ?_⟩
  · cases e
    exact ⟨_, Heap.get?_push_size _ rfl, rfl⟩
  · have hA := ha.run pos pins _ σ _ _ I2 q2
    rw [star_cons hp] at hA ⊢
    refine Calls.callWith_builtin rfl (Calls.evalArgs_plain ?_)
    exact thn hA fun us2 s2 ⟨vs, H2, I3, r2, q3⟩ => mt_tup_index pins s2 σ H2 (.ref s1.heap.objs.size) vs _ us2 Q I3 rfl r2 q3
theorem s_tix (h : XOk P G g k C X EX) {es : List Expr} {a : Expr} {kk : Nat} {tpos apos pos : Pos} {as tb : T} (pa : PA X es (tA G EX (ncT as) (evA g as))) (hl : (apos.endLine == pos.line) = true) (hp : plainE a = true) (ha : PE X a (tE G EX (ncT tb) (evE g tb))) :
    PE X (.Call (.Attribute (.Tuple es kk tpos) "index" apos) [a] [] pos) (tE G EX (ncT (.tix as tb)) (evE g (.tix as tb))) := by
  refine PE.imp (pe_tix pa (pa1 ha hp) hp hl) fun σ H Q z => t_tup ?_
  have e2 : evE g (.tix as tb) = fun en => ((evA g as en).bind kTup).bind fun v en => (evE g tb en).bind (kTix v) := by funext en; rw [evE]
  rw [e2] at z
  obtain ⟨I, en, F, w, q⟩ := z
  try dsimp only at q
  refine (Hld.start w).eval (m := ncT as) (fun x hx => nomatch hx) ?_
  try dsimp only
  cases zf : (evA g as en).bind kTup with
  | exc x e' => rw [zf] at q; exact q
  | bad => rw [zf] at q; exact q
  | ok x e1 =>
    rw [zf] at q
    intro v I1 H1 Gs F1 h1
    have xsl : ∀ i fs, x ≠ .pl i fs := fun i fs e => by
      subst e
      cases za : evA g as en with
      | exc _ _ => rw [za] at zf; cases zf
      | bad => rw [za] at zf; cases zf
      | ok vs e0 =>
        rw [za] at zf
        have zf' : kTup vs e0 = .ok (.pl i fs) e1 := zf
        unfold kTup at zf'
        split at zf'
        · split at zf' <;> cases zf'
        · cases zf'
    refine h1.eval (m := ncT tb) (fun x' hx => ?_) ?_
    · rw [List.mem_singleton.mp hx]
      cases x with
      | sl s => trivial
      | pl i fs => exact absurd rfl (xsl i fs)
    · have q' : PostE G EX (ncT (.tix as tb)) ((evE g tb e1).bind (kTix x)) I H F σ Q := q
      cases zg : evE g tb e1 with
      | exc y e' => rw [zg] at q'; exact q'
      | bad => rw [zg] at q'; exact q'
      | ok y e2 =>
        rw [zg] at q'
        intro u I2 H2 Gs2 F2 h2
        have q2 : PostE G EX (ncT as && ncT tb) (kTix x y e2) I H F σ Q := q'
        unfold kTix at q2
        cases z1 : valOf e2 x with
        | none => rw [z1] at q2; exact q2.elim
        | some pa =>
          cases z2 : valOf e2 y with
          | none => rw [z1, z2] at q2; exact q2.elim
          | some pb =>
            rw [z1, z2] at q2
            obtain ⟨s, hs2, q2⟩ := outO_ok q2
            obtain ⟨_, _, _, hv2, hr2⟩ := h2.ev.hd
            obtain ⟨_, _, _, hu2, _⟩ := hr2.hd
            have bv := hv2.b h2.w z1
            have bu := hu2.b h2.w z2
            have f := h2.fin q2
            unfold tixV at hs2
            split at hs2
            · rename_i ps z
              cases zs : strsOf ps with
              | none => rw [zs] at hs2; cases hs2
              | some ys =>
                rw [zs] at hs2
                dsimp only at hs2
                cases zi : ys.findIdx? (· == z) with
                | none => rw [zi] at hs2; cases hs2
                | some j =>
                  rw [zi] at hs2
                  cases hs2
                  obtain ⟨b, ws, rfl, _, hh, rr⟩ := bv.to_tup h2.w.ex
                  rw [rr.strs zs] at hh
                  obtain ⟨hj, h3, h4⟩ := List.findIdx?_eq_some_iff_getElem.mp zi
                  rw [← h.pf.K]
                  refine ⟨b, ys, z, j, rfl, by rw [bu.to_str], hh, ?_, fun m hm hc => ?_, f.val h2.w.ex (.int _)⟩
                  · rw [List.getElem?_eq_getElem hj, eq_of_beq h3]
                  · obtain ⟨hm2, e⟩ := List.getElem?_eq_some_iff.mp hc
                    have := h4 m hm
                    rw [e] at this
                    simp at this
            · cases hs2
theorem s_idx (h : XOk P G g k C X EX) (hr : ∀ md e, Snd G g X EX md e (rec md C e)) {o a : Expr} {apos pos : Pos} (ho : notCall o = true) (hl : (apos.endLine == pos.line) = true) (hp : plainE a = true) :
    PE X (.Call (.Attribute o "index" apos) [a] [] pos) (tE G EX (ncT (cIdx rec C o a)) (evE g (cIdx rec C o a))) := by
  unfold cIdx
  split
  · rename_i es kk tpos
    split
    · rename_i hpe
      refine opt_map (Pr := fun t => PE X (.Call (.Attribute (.Tuple es kk tpos) "index" apos) [a] [] pos) (tE G EX (ncT t) (evE g t))) pe_nop fun as ha => ?_
      obtain ⟨pa, _, _⟩ := s_args (md := .val) (.inr rfl) hpe (fun e _ => hr .val e) ha
      exact s_tix h pa hl hp (hr .opd a)
    · exact pe_nop
  · split
    · rename_i hs
      exact s_lix h (hr .opd o) ho hl hp (hr .opd a) hs
    · exact pe_nop
theorem s_mth0 (h : XOk P G g k C X EX) (hr : ∀ md e, Snd G g X EX md e (rec md C e)) {o : Expr} {m : Str} {apos pos : Pos} {args : List Expr} : PE X (.Call (.Attribute o m apos) args [] pos) (tE G EX (ncT (cMth P rec C n o m (apos.endLine == pos.line) args)) (evE g (cMth P rec C n o m (apos.endLine == pos.line) args))) := by
  unfold cMth
  split
  · rename_i c
    rw [Bool.and_eq_true, Bool.and_eq_true, Bool.and_eq_true, decide_eq_true_eq] at c
    obtain ⟨⟨⟨c1, c2⟩, c3⟩, c4⟩ := c
    split
    · rename_i k' hk
      split
      · rename_i as ha
        split
        · rename_i hs
          obtain ⟨pa, nilq, _⟩ := s_args (.inl rfl) c3 (opd_all hr) ha
          have e2 : evE g (.mth k' (rec .opd C o) as) = fun en => (evE g (rec .opd C o) en).bind fun v en => (mthO g k' v en).bind fun f en => (evA g as en).bind fun vs => callR g.sem f (v :: vs) := by funext en; rw [evE]
          rw [e2]
          have hcalm : C.calm = true := by
            cases z : C.calm with
            | true => rfl
            | false => rw [z] at hk; cases hk
          rw [if_pos hcalm] at hk
          exact s_mth h.tk (h.rm0 hcalm) ((h.pc hcalm).met m k' hk) c1 c2 c3 c4 (hr .opd o) pa (rt_or hs) fun q => by
            rw [nilq q]
            funext en; rw [evA]
        · exact pe_nop
      · exact pe_nop
    · split
      · rename_i a
        have hp : plainE a = true := by simpa [plainEs] using c3
        split
        · rename_i hm
          subst hm
          exact s_idx h hr c1 c2 hp
        · split
          · rename_i i r hpl
            have hpl' := s_pl h hpl
            have one : ∀ {md : Md}, md = .opd ∨ md = .val → ∀ {mt : Mut}, m = mutN mt → (r.isEmpty || ncT (rec md C a)) = true → PE X (.Call (.Attribute o m apos) [a] [] pos) (tE G EX (ncT (.mut mt i r.reverse (.cons (rec md C a) .nil))) (evE g (.mut mt i r.reverse (.cons (rec md C a) .nil)))) := fun {md} hmd {mt} hm hs => by
              subst hm
              obtain ⟨pa, nilq, _⟩ := s_args (rec := rec) (C := C) (es := [a]) (t := .cons (rec md C a) .nil) hmd c3 (fun e _ => hr md e) (by
                simp only [List.map_cons, List.map_nil, argsT, consT]
                simp [ncT])
              refine s_mutM h hpl' (cPl_lt hpl) c1 c2 c3 c4 pa nilq ?_
              rw [Bool.or_eq_true] at hs
              exact hs.imp (fun q => List.isEmpty_iff.mp q) fun q => by simp [ncT, q]
            split
            · rename_i hm
              split
              · rename_i hs; exact one (.inr rfl) hm hs
              · exact pe_nop
            · split
              · rename_i hm
                split
                · rename_i hs; exact one (.inl rfl) (mt := .popAt) hm hs
                · exact pe_nop
              · split
                · rename_i hm
                  split
                  · rename_i hs; exact one (.inl rfl) (mt := .extend) hm hs
                  · exact pe_nop
                · exact pe_nop
          · exact pe_nop
      · split
        · rename_i hm
          split
          · rename_i i r hpl
            subst hm
            obtain ⟨pa, nilq, _⟩ := s_args (rec := rec) (C := C) (md := .opd) (es := []) (t := .nil) (.inl rfl) c3 (fun e h => nomatch h) rfl
            exact s_mutM (mt := .pop) h (s_pl h hpl) (cPl_lt hpl) c1 c2 c3 c4 pa nilq (.inr rfl)
          · exact pe_nop
        · exact pe_nop
      · exact pe_nop
  · exact pe_nop
end
end RF
set_option maxHeartbeats 1000000
namespace RF
open PySem PySem.Spec PyProof.Rows L2 Evl
section
variable {P : PTab} {G : Gr} {g : RF.Gl} {k : Nat} {C : CC} {X : Cx} {EX : WX} {rec : Md → CC → Expr → T} {n : Nat}
theorem evI_root {t : T} {e e' : RF.Env} {xy : EV × List PV} {i : Nat} {fs : List Nat} (q : evI g t e = .ok xy e') (hx : xy.1 = .pl i fs) : fs = [] ∧ (t = .isq (.plc i []) ∨ t = .ien (.plc i [])) := by
  cases t with
  | isq a =>
    rw [evI] at q
    cases z : evE g a e with
    | exc _ _ => rw [z] at q; cases q
    | bad => rw [z] at q; cases q
    | ok x e1 =>
      rw [z] at q
      have q2 : kIsq x e1 = .ok xy e' := q
      unfold kIsq at q2
      cases zw : walkOf e1 x with
      | none => rw [zw] at q2; cases q2
      | some yp =>
        rw [zw] at q2
        dsimp only at q2
        cases zi : itemsP yp.2 with
        | none => rw [zi] at q2; cases q2
        | some ys =>
          rw [zi] at q2
          cases q2
          dsimp only at hx
          have hx2 : x = .pl i [] ∧ fs = [] := by
            cases x with
            | sl s =>
              rw [walkOf] at zw
              cases zv : valOf e' (.sl s) with
              | none => rw [zv] at zw; cases zw
              | some p => rw [zv] at zw; cases zw; cases hx
            | pl j gs =>
              cases gs with
              | nil =>
                rw [walkOf] at zw
                cases zv : valOf e' (.pl j []) with
                | none => rw [zv] at zw; cases zw
                | some p => rw [zv] at zw; cases zw; cases hx; exact ⟨rfl, rfl⟩
              | cons f gs =>
                rw [walkOf] at zw
                cases zv : getP e' j (f :: gs) with
                | none => rw [zv] at zw; cases zw
                | some s =>
                  rw [zv] at zw
                  cases s with
                  | val v => cases zw; cases hx
                  | _ => cases zw
          obtain ⟨rfl, rfl⟩ := hx2
          exact ⟨rfl, by rcases pl_plc g z with q | ⟨_, q⟩; exact .inl (by rw [q]); exact absurd rfl q⟩
  | ien a =>
    rw [evI] at q
    cases z : evE g a e with
    | exc _ _ => rw [z] at q; cases q
    | bad => rw [z] at q; cases q
    | ok x e1 =>
      rw [z] at q
      have q2 : kIen x e1 = .ok xy e' := q
      unfold kIen at q2
      cases zw : walkOf e1 x with
      | none => rw [zw] at q2; cases q2
      | some yp =>
        rw [zw] at q2
        dsimp only at q2
        cases zi : itemsP yp.2 with
        | none => rw [zi] at q2; cases q2
        | some ys =>
          rw [zi] at q2
          cases q2
          dsimp only at hx
          have hx2 : x = .pl i [] ∧ fs = [] := by
            cases x with
            | sl s =>
              rw [walkOf] at zw
              cases zv : valOf e' (.sl s) with
              | none => rw [zv] at zw; cases zw
              | some p => rw [zv] at zw; cases zw; cases hx
            | pl j gs =>
              cases gs with
              | nil =>
                rw [walkOf] at zw
                cases zv : valOf e' (.pl j []) with
                | none => rw [zv] at zw; cases zw
                | some p => rw [zv] at zw; cases zw; cases hx; exact ⟨rfl, rfl⟩
              | cons f gs =>
                rw [walkOf] at zw
                cases zv : getP e' j (f :: gs) with
                | none => rw [zv] at zw; cases zw
                | some s =>
                  rw [zv] at zw
                  cases s with
                  | val v => cases zw; cases hx
                  | _ => cases zw
          obtain ⟨rfl, rfl⟩ := hx2
          exact ⟨rfl, by rcases pl_plc g z with q | ⟨_, q⟩; exact .inr (by rw [q]); exact absurd rfl q⟩
  | irn3 as =>
    rw [evI] at q
    cases z : evA g as e with
    | exc _ _ => rw [z] at q; cases q
    | bad => rw [z] at q; cases q
    | ok xs e1 =>
      rw [z] at q
      have q2 : kRng3 xs e1 = .ok xy e' := q
      unfold kRng3 at q2
      split at q2
      · split at q2
        · cases q2; cases hx
        · cases q2
      · cases q2
  | irng as =>
    rw [evI] at q
    cases z : evA g as e with
    | exc _ _ => rw [z] at q; cases q
    | bad => rw [z] at q; cases q
    | ok xs e1 =>
      rw [z] at q
      have q2 : kRng xs e1 = .ok xy e' := q
      unfold kRng at q2
      split at q2
      · split at q2
        · cases q2; cases hx
        · cases q2
      · cases q2
  | _ => simp [evI] at q
theorem as_len {env : PySem.Env} : ∀ {es : List Expr}, (assignEach es env).length = es.length
  | [] => rfl
  | e :: es => by cases e <;> exact congrArg Nat.succ (as_len (es := es))
theorem as_star {env : PySem.Env} : ∀ {es : List Expr}, plainEs es = true → (assignEach es env).findIdx? (·.1) = none
  | [], _ => rfl
  | e :: es, h => by
    unfold plainEs at h
    rw [List.all_cons, Bool.and_eq_true] at h
    have ih := as_star (env := env) (es := es) h.2
    have e1 : assignEach (e :: es) env = (false, assign e env) :: assignEach es env := by cases e <;> first | rfl | cases h.1
    rw [e1, List.findIdx?_cons, ih]
    rfl
theorem as_cons {env : PySem.Env} {e : Expr} {es : List Expr} (h : plainE e = true) : (assignEach (e :: es) env).map (·.2) = assign e env :: (assignEach es env).map (·.2) := by
  cases e <;> first | rfl | cases h
theorem pg_bad {e : Expr} {t : T} (h : tgR X.K t = fun _ _ _ _ => False) : PG X e (tgR X.K t) := ⟨fun pins s σ H v u Q J r z => by rw [h] at z; exact z.elim⟩
theorem tlen_list : ∀ ts : List T, tlen (listT ts) = ts.length
  | [] => rfl
  | t :: ts => congrArg Nat.succ (tlen_list ts)
theorem s_tg (nN : X.N = C.N) (nd : X.N.Nodup) (hsc : X.env.scope = C.sc) (hcm : C.calm = true → X.calm = true) {scope : Scope} (hf : ∀ x, stoK C scope x = true → X.fn x = true ∨ X.env.scope.names.lookup x = some .local) : ∀ {n : Nat} {e : Expr}, PG X e (tgR X.K (cTg C scope n e)) := by
  intro n
  induction n with
  | zero => intro e; exact pg_bad (by rw [cTg]; rfl)
  | succ n ih =>
    intro e
    cases e with
    | Name x pos =>
      rw [cTg]
      split
      · rename_i c
        cases z : ixOf x C.N with
        | none => exact pg_bad rfl
        | some i =>
          have hx : L2.Loc X.env.scope x := by
            unfold L2.Loc
            rw [hsc]
            unfold stoK at c
            split at c
            · rename_i e; exact .inl e
            · rename_i e; exact .inr e
            · cases c
          show PG X (.Name x pos) (gName i)
          exact pg_name nd (by rw [nN]; exact ixOf_get z) hx (hf x c)
      · exact pg_bad rfl
    | Tuple es kk pos =>
      rw [cTg]
      split
      · rename_i c
        rw [Bool.and_eq_true] at c
        have pgs : ∀ {es : List Expr}, plainEs es = true → PGs X es (tgsR X.K (listT (es.map (cTg C scope n)))) := fun {es} => by
          induction es with
          | nil => intro _; exact pgs_nil
          | cons e es ihs =>
            intro hp
            unfold plainEs at hp
            rw [List.all_cons, Bool.and_eq_true] at hp
            exact pgs_cons ih (ihs hp.2) (as_cons hp.1)
        show PG X (.Tuple es kk pos) (gTup X.K (tlen (listT (es.map (cTg C scope n)))) (tgsR X.K (listT (es.map (cTg C scope n)))))
        rw [tlen_list, List.length_map]
        exact pg_tup (hcm c.1) (pgs c.2) as_len (as_star c.2)
      · exact pg_bad rfl
    | _ => exact pg_bad (by simp [cTg, tgR])
theorem pi_itm {tg e : Expr} {t : T} (h : Snd G g X EX (itm tg) e t) : PI X tg e (tI G EX (ncT t) (evI g t)) := by
  cases tg <;> first | exact h _ _ _ | exact h _
theorem FnF.blk {sem : Nat → List Slot → RF.CR} {i : Nat} {fa : Addr} {s : Shared} {H : Hp} {scope : Scope} {ce : PySem.Env} {fp : List Addr} (F : FnF X G sem k i fa) : FnF (X.blk s H scope ce fp) G sem k i fa := ⟨F.ex, F.kp⟩
theorem PF.blk {s : Shared} {H : Hp} {scope : Scope} {ce : PySem.Env} {fp : List Addr} (h : PF P G g k X) : PF P G g k (X.blk s H scope ce fp) where
  K := h.K
  w := h.w
  att := h.att
  gatt := h.gatt
  cl := h.cl
  an := h.an
  cs := h.cs
  gl := h.gl
  nb := h.nb
  exc := h.exc
  kit := h.kit
  exm := h.exm
  eqn := h.eqn
  rse := h.rse
theorem PC.blk {s : Shared} {H : Hp} {scope : Scope} {ce : PySem.Env} {fp : List Addr} (h : PC P G g k X) : PC P G g k (X.blk s H scope ce fp) where
  fn := fun x i q => by
    obtain ⟨fa, h1, h2⟩ := h.fn x i q
    exact ⟨fa, h1, h2.blk⟩
  mkr := fun c q => by
    obtain ⟨i, fa, h1, h2, h3⟩ := h.mkr c q
    exact ⟨i, fa, h1, h2, h3.blk⟩
  met := fun nm m q c i hi => by
    obtain ⟨fa, h1, h2, h3, h4⟩ := h.met nm m q c i hi
    exact ⟨fa, h1, h2, h3.blk, h4⟩
theorem blk_sc {scope : Scope} {cl : List (Str × Addr)} {a : Addr} (h : X.env.scope = C.sc) : (compEnvC scope cl a X.env).scope = blkSc scope C.sc := by
  show relabel scope X.env = _
  unfold relabel blkSc Env.kindOf
  rw [h]
theorem takes_never {Y : Cx} : Takes Y EXf := fun u s' ⟨a, B, sI, pins, σ, H, cls, d, e, I, nb, up, sky, na, os, ag, w⟩ => w.elim
theorem XOk.blk (h : XOk P G g k C X EX) (hc : C.calm = true) {s : Shared} {H : Hp} {scope : Scope} {cl : List (Str × Addr)} {a : Addr} {fp : List Addr} : XOk P G g k { C with sc := blkSc scope C.sc } (X.blk s H scope (compEnvC scope cl a X.env) fp) EXf where
  pf := h.pf.blk
  pc := fun q => (h.pc q).blk
  nN := h.nN
  nd := h.nd
  sc := blk_sc h.sc
  calm := h.calm
  tk := takes_never
  hu := h.hu
  rmc := h.rmc
  xa := fun hf => by rw [show ({ C with sc := blkSc scope C.sc } : CC).calm = C.calm from rfl, hc] at hf; cases hf
theorem fold_ok {e : Expr} {env : PySem.Env} (h : cLc.okFold e = true) (x : Value) : foldedSetIterable e env x = pure x := by
  cases e <;> first | rfl | cases h
theorem s_lc0 (h : XOk P G g k C X EX) (hr : ∀ {C : CC} {X : Cx} {EX : WX}, XOk P G g k C X EX → ∀ md e, Snd G g X EX md e (rec md C e)) {elt tg iter : Expr} {ifs : List Expr} {scope : Scope} {pos : Pos} :
    PE X (.ListComp elt [⟨tg, iter, ifs, 0⟩] scope pos) (tE G EX (ncT (cLc rec C n elt tg iter ifs scope)) (evE g (cLc rec C n elt tg iter ifs scope))) := by
  unfold cLc
  dsimp only
  split
  · rename_i c
    rw [Bool.and_eq_true, Bool.and_eq_true, Bool.and_eq_true] at c
    obtain ⟨⟨⟨c1, c2⟩, c3⟩, c4⟩ := c
    have hc := h.calm c1
    have blk : BlkOk X.N X.env.scope scope (ownN C scope) := by
      rw [h.nN, h.sc]
      exact blkOk_by c2
    have tgo : ∀ j ∈ tgIx (cTg { C with sc := blkSc scope C.sc } scope n tg), j ∈ (ownN C scope).map (·.2) := fun j hj => by
      have := List.all_eq_true.mp c3 j hj
      simpa using this
    have hg : ∀ (s : Shared) (H : Hp) (Cc : Addr) (cl : List (Str × Addr)) (fp : List Addr), PG (X.blk s H scope (compEnvC scope cl Cc X.env) fp) tg (tgR X.K (cTg { C with sc := blkSc scope C.sc } scope n tg)) := fun s H Cc cl fp =>
      s_tg (X := X.blk s H scope (compEnvC scope cl Cc X.env) fp) (C := { C with sc := blkSc scope C.sc }) h.nN h.nd (blk_sc h.sc) h.calm (scope := scope) fun x hx => by
        unfold stoK at hx
        split at hx
        · rename_i e
          right
          show (compEnvC scope cl Cc X.env).scope.names.lookup x = some .local
          rw [blk_sc h.sc]
          exact e
        · exact .inl hx
        · cases hx
    have e2 : ∀ cs el, evE g (.lc ((ownN C scope).map (·.2)) (rec (itm tg) C iter) (cTg { C with sc := blkSc scope C.sc } scope n tg) cs el) = fun en => (evI g (rec (itm tg) C iter) en).bind (kLc ((ownN C scope).map (·.2)) (cTg { C with sc := blkSc scope C.sc } scope n tg) (evT g cs) (evE g el)) := fun cs el => by funext en; rw [evE]
    have hi : PI X tg iter (tI G EX (ncT (rec (itm tg) C iter)) (evI g (rec (itm tg) C iter))) := pi_itm (hr h (itm tg) iter)
    have root : ∀ e xy e', evI g (rec (itm tg) C iter) e = .ok xy e' → ∀ i fs, xy.1 = .pl i fs → fs = [] := fun e xy e' q i fs hx => (evI_root q hx).1
    split
    · have yes : ∀ (s : Shared) (H : Hp) (Cc : Addr) (cl : List (Str × Addr)) (fp : List Addr), PTs (X.blk s H scope (compEnvC scope cl Cc X.env) fp) [] (tT G EXf (ncT .nop) (evT g .nop)) := fun s H Cc cl fp => ⟨fun pins s σ H Q J z => by
        obtain ⟨I, en, F, w, q⟩ := z
        rw [evT] at q
        exact pts_nil.run pins s σ H Q J (q I H F (Stp.refl _) w)⟩
      refine PE.imp (pe_lc hc h.nd hi blk hg yes (fun s H Cc cl fp => hr (h.blk c1) .val elt) (fun x => fold_ok c4 x)) fun σ H Q z => ?_
      rw [e2] at z
      have z2 := t_lc root tgo z
      rw [h.pf.K] at z2
      exact z2
    · rename_i cnd
      refine PE.imp (pe_lc hc h.nd hi blk hg (fun s H Cc cl fp => pts_one (hr (h.blk c1) .tst cnd)) (fun s H Cc cl fp => hr (h.blk c1) .val elt) (fun x => fold_ok c4 x)) fun σ H Q z => ?_
      rw [e2] at z
      have z2 := t_lc root tgo z
      rw [h.pf.K] at z2
      exact z2
    · exact pe_nop
  · exact pe_nop
theorem s_dcG (h : XOk P G g k C X EX) (hr : ∀ {C : CC} {X : Cx} {EX : WX}, XOk P G g k C X EX → ∀ md e, Snd G g X EX md e (rec md C e)) {kx vx tg iter : Expr} {ifs : List Expr} {scope : Scope} {R : TE → Prop} (bad : R (tE G EX true (evE g .nop))) (imp : ∀ t t', (∀ σ H Q, t' σ H Q → t σ H Q) → R t → R t')
    (use : ∀ {wi : TI} {tG : TG} {tt : TT} {tk tv : TE}, X.calm = true → PI X tg iter wi → BlkOk X.N X.env.scope scope (ownN C scope) →
      (∀ (s : Shared) (H : Hp) (C : Addr) (cl : List (Str × Addr)) (fp : List Addr), PG (X.blk s H scope (compEnvC scope cl C X.env) fp) tg tG) → (∀ (s : Shared) (H : Hp) (C : Addr) (cl : List (Str × Addr)) (fp : List Addr), PTs (X.blk s H scope (compEnvC scope cl C X.env) fp) ifs tt) →
      (∀ (s : Shared) (H : Hp) (C : Addr) (cl : List (Str × Addr)) (fp : List Addr), PE (X.blk s H scope (compEnvC scope cl C X.env) fp) kx tk) → (∀ (s : Shared) (H : Hp) (C : Addr) (cl : List (Str × Addr)) (fp : List Addr), PE (X.blk s H scope (compEnvC scope cl C X.env) fp) vx tv) →
      (∀ x, foldedSetIterable iter X.env x = pure x) → R (tDcX X.K X.w wi tG tt tk tv ((ownN C scope).map (·.2)))) :
    R (tE G EX (ncT (cDc rec C n kx vx tg iter ifs scope)) (evE g (cDc rec C n kx vx tg iter ifs scope))) := by
  unfold cDc
  dsimp only
  split
  · rename_i c
    rw [Bool.and_eq_true, Bool.and_eq_true, Bool.and_eq_true] at c
    obtain ⟨⟨⟨c1, c2⟩, c3⟩, c4⟩ := c
    have hc := h.calm c1
    have blk : BlkOk X.N X.env.scope scope (ownN C scope) := by
      rw [h.nN, h.sc]
      exact blkOk_by c2
    have tgo : ∀ j ∈ tgIx (cTg { C with sc := blkSc scope C.sc } scope n tg), j ∈ (ownN C scope).map (·.2) := fun j hj => by
      have := List.all_eq_true.mp c3 j hj
      simpa using this
    have hg : ∀ (s : Shared) (H : Hp) (Cc : Addr) (cl : List (Str × Addr)) (fp : List Addr), PG (X.blk s H scope (compEnvC scope cl Cc X.env) fp) tg (tgR X.K (cTg { C with sc := blkSc scope C.sc } scope n tg)) := fun s H Cc cl fp =>
      s_tg (X := X.blk s H scope (compEnvC scope cl Cc X.env) fp) (C := { C with sc := blkSc scope C.sc }) h.nN h.nd (blk_sc h.sc) h.calm (scope := scope) fun x hx => by
        unfold stoK at hx
        split at hx
        · rename_i e
          right
          show (compEnvC scope cl Cc X.env).scope.names.lookup x = some .local
          rw [blk_sc h.sc]
          exact e
        · exact .inl hx
        · cases hx
    have e2 : ∀ cs ke ve, evE g (.dlc ((ownN C scope).map (·.2)) (rec (itm tg) C iter) (cTg { C with sc := blkSc scope C.sc } scope n tg) cs ke ve) = fun en => (evI g (rec (itm tg) C iter) en).bind (kDc ((ownN C scope).map (·.2)) (cTg { C with sc := blkSc scope C.sc } scope n tg) (evT g cs) (evE g ke) (evE g ve)) := fun cs ke ve => by funext en; rw [evE]
    have hi : PI X tg iter (tI G EX (ncT (rec (itm tg) C iter)) (evI g (rec (itm tg) C iter))) := pi_itm (hr h (itm tg) iter)
    have root : ∀ e xy e', evI g (rec (itm tg) C iter) e = .ok xy e' → ∀ i fs, xy.1 = .pl i fs → fs = [] := fun e xy e' q i fs hx => (evI_root q hx).1
    split
    · have yes : ∀ (s : Shared) (H : Hp) (Cc : Addr) (cl : List (Str × Addr)) (fp : List Addr), PTs (X.blk s H scope (compEnvC scope cl Cc X.env) fp) [] (tT G EXf (ncT .nop) (evT g .nop)) := fun s H Cc cl fp => ⟨fun pins s σ H Q J z => by
        obtain ⟨I, en, F, w, q⟩ := z
        rw [evT] at q
        exact pts_nil.run pins s σ H Q J (q I H F (Stp.refl _) w)⟩
      refine imp _ _ (fun σ H Q z => ?_) (use hc hi blk hg yes (fun s H Cc cl fp => hr (h.blk c1) .val kx) (fun s H Cc cl fp => hr (h.blk c1) .val vx) (fun x => fold_ok c4 x))
      rw [e2] at z
      have z2 := t_dc root tgo z
      rw [h.pf.K, h.pf.w] at z2
      exact z2
    · rename_i cnd
      refine imp _ _ (fun σ H Q z => ?_) (use hc hi blk hg (fun s H Cc cl fp => pts_one (hr (h.blk c1) .tst cnd)) (fun s H Cc cl fp => hr (h.blk c1) .val kx) (fun s H Cc cl fp => hr (h.blk c1) .val vx) (fun x => fold_ok c4 x))
      rw [e2] at z
      have z2 := t_dc root tgo z
      rw [h.pf.K, h.pf.w] at z2
      exact z2
    · exact bad
  · exact bad
theorem t_dct {nc : Bool} {σ : L2.St} {H : Hp} {Q : VK} (z : tE G EX nc (fun en => RF.R.ok (.sl (.odic [])) en) σ H Q) : tDNewK σ H Q := by
  obtain ⟨I, e, F, w, q⟩ := z
  intro p hp
  have h0 : Hld G nc I H F σ [] [] e I H [] F := ⟨Stp.refl _, w, .nil, w.nd, fun a z => nomatch z⟩
  exact (h0.fin q) (.ref p) I _ [p] (New.own w.ex hp) (.odic upd_same .nil)
theorem e_plc {i : Nat} {fs : List Nat} : evE g (.plc i fs) = kPlc i fs := by funext en; rw [evE]
theorem con_pe {c : Const} {p : PV} {j : Nat} {pos : Pos} (hc : conP c = some p) : PE X (.Constant c j pos) (tE G EX true (evE g (.con p))) := by
  have e2 : ∀ p, evE g (.con p) = fun en => .ok (.sl (.val p)) en := fun p => by funext en; rw [evE]
  cases c with
  | none => cases hc; rw [e2]; exact PE.imp pe_non fun σ H Q z => t_con (fun I => .non) z
  | bool b => cases hc; rw [e2]; exact PE.imp pe_bl fun σ H Q z => t_con (fun I => .bl b) z
  | int b => cases hc; rw [e2]; exact PE.imp pe_int fun σ H Q z => t_con (fun I => .int b) z
  | str b => cases hc; rw [e2]; exact PE.imp pe_str fun σ H Q z => t_con (fun I => .str b) z
  | _ => cases hc
theorem s_glob (h : XOk P G g k C X EX) {x : Str} {pos : Pos} : PE X (.Name x pos) (tE G EX (ncT (if isGl C x then opt ((P.gl.lookup x).map .con) else .nop)) (evE g (if isGl C x then opt ((P.gl.lookup x).map .con) else .nop))) := by
  split
  · rename_i c
    cases z : P.gl.lookup x with
    | none => exact pe_nop
    | some p =>
      obtain ⟨h1, h2⟩ := isGl_ok h c
      obtain ⟨v, u, hm, r, hp⟩ := h.pf.gl x p z
      have e2 : ∀ p, evE g (.con p) = fun en => .ok (.sl (.val p)) en := fun p => by funext en; rw [evE]
      show PE X (.Name x pos) (tE G EX true (evE g (.con p)))
      rw [e2]
      exact PE.imp (pe_glob h1 hm r h2) fun σ H Q z => t_con hp z
  · exact pe_nop
theorem ix_plain {b : Expr} (h : nilE b = true) : PlainIx b := by
  intro o i
  cases b <;> first | rfl | cases h
theorem s_part (h : XOk P G g k C X EX) (hr : ∀ md e, Snd G g X EX md e (rec md C e)) {o : Option Expr} : PO X o (tT G EX (ncT (partT (rec .opd C) o)) (evO g (partT (rec .opd C) o))) := by
  cases o with
  | none =>
    refine ⟨fun pins s σ H Q J z => po_none.run pins s σ H Q J ?_⟩
    have e2 : evO g (partT (rec .opd C) none) = fun en => .ok none en := by funext en; rw [partT, evO]
    rw [e2] at z
    exact t_noprt z
  | some e =>
    refine ⟨fun pins s σ H Q J z => (po_some (hr .opd e)).run pins s σ H Q J ?_⟩
    have e2 : evO g (partT (rec .opd C) (some e)) = fun en => (evE g (rec .opd C e) en).bind kPrt := by funext en; rw [partT, evO]
    rw [e2] at z
    exact t_prt z
theorem s_opd (h : XOk P G g k C X EX) (hr : ∀ {C : CC} {X : Cx} {EX : WX}, XOk P G g k C X EX → ∀ md e, Snd G g X EX md e (rec md C e)) (e : Expr) : PE X e (tE G EX (ncT (cOpd P rec n C e)) (evE g (cOpd P rec n C e))) := by
  have hr0 := fun md e => hr h md e
  unfold cOpd
  split
  · rename_i c j pos
    cases z : conP c with
    | none => exact pe_nop
    | some p => exact con_pe z
  · rename_i x pos
    cases z : vIx C x with
    | some i =>
      show PE X (.Name x pos) (tE G EX true (evE g (.plc i [])))
      rw [e_plc]
      exact PE.imp (s_var h z) fun σ H Q z => t_plc h.pf.att (r := []) (fun _ h => nomatch h) z
    | none => exact s_glob h
  · rename_i o f pos
    split
    · rename_i i r hpl
      show PE X (.Attribute o f pos) (tE G EX true (evE g (.plc i r.reverse)))
      rw [e_plc]
      exact PE.imp (s_pl h hpl) fun σ H Q z => t_plc h.pf.att (cPl_lt hpl) z
    · split
      · rename_i hn
        split
        · rename_i k' hk
          split
          case isFalse => exact pe_nop
          rename_i hlt
          have e2 : evE g (.fld (rec .val C o) k') = fun en => (evE g (rec .val C o) en).bind (kFld k') := by funext en; rw [evE]
          have e3 := h.pf.an f k' hk
          refine PE.imp (pe_fld (hr0 .val o) (base_of hn)) fun σ H Q z => ?_
          rw [e2] at z
          rw [← e3, ← h.pf.K]
          exact t_fld h.pf.att hlt z
        · exact pe_nop
      · exact pe_nop
  · rename_i a op b pos
    split
    · rename_i p hp
      split
      · rename_i hs
        exact s_bin h hp hs (hr0 .opd a) (hr0 .opd b)
      · exact pe_nop
    · exact pe_nop
  · rename_i a pos
    exact s_op1 h trivial (pe_un un_neg (hr0 .opd a))
  · rename_i a pos
    exact s_op1 h trivial (pe_not (hr0 .opd a))
  · exact s_cmpI h (fun e => hr0 .opd e)
  · exact s_bv h (fun e => hr0 .opd e)
  · rename_i t a b pos
    refine PE.imp (pe_ifExp (hr0 .tst t) (hr0 .val a) (hr0 .val b)) fun σ H Q z => t_ife (by
      have e2 : evE g (.ife (rec .tst C t) (rec .val C a) (rec .val C b)) = fun en => (evT g (rec .tst C t) en).bind fun k en => match k with
        | true => (evE g (rec .val C a) en).bind onlySl
        | false => (evE g (rec .val C b) en).bind onlySl := by funext en; rw [evE]; try rfl
      rw [e2] at z
      exact z)
  · rename_i es kk pos
    split
    · rename_i hp
      refine opt_map (Pr := fun t => PE X (.Tuple es kk pos) (tE G EX (ncT t) (evE g t))) pe_nop fun as ha => ?_
      obtain ⟨pa, _, _⟩ := s_args (md := .val) (.inr rfl) hp (fun e _ => hr0 .val e) ha
      have e2 : evE g (.tup as) = fun en => (evA g as en).bind kTup := by funext en; rw [evE]
      exact PE.imp (pe_tup pa) fun σ H Q z => t_tup (by rw [e2] at z; exact z)
    · exact pe_nop
  · rename_i es pos
    split
    · rename_i hp
      refine opt_map (Pr := fun t => PE X (.List es pos) (tE G EX (ncT t) (evE g t))) pe_nop fun as ha => ?_
      obtain ⟨pa, _, _⟩ := s_args (md := .val) (.inr rfl) hp (fun e _ => hr0 .val e) ha
      have e2 : evE g (.lst as) = fun en => (evA g as en).bind kLst := by funext en; rw [evE]
      have e3 : evE g (.lol as) = fun en => (evA g as en).bind kLol := by funext en; rw [evE]
      split
      · exact PE.imp (pe_lst pa) fun σ H Q z => t_lol (by rw [e3] at z; exact z)
      · exact PE.imp (pe_lst pa) fun σ H Q z => t_lst (by rw [e2] at z; exact z)
    · exact pe_nop
  · rename_i a lo hi p2 pos
    split
    · rename_i hs
      have hs' : Roots (evE g (rec .opd C a)) ∨ (ncT (partT (rec .opd C) lo) && ncT (partT (rec .opd C) hi)) = true := rt_or hs
      refine PE.imp (pe_slice sl_cut (hr0 .opd a) (s_part h hr0) (s_part h hr0)) fun σ H Q z => ?_
      have e2 : evE g (.slc (rec .opd C a) (partT (rec .opd C) lo) (partT (rec .opd C) hi)) = fun en => (evE g (rec .opd C a) en).bind fun u en => (evO g (partT (rec .opd C) lo) en).bind fun l en => (evO g (partT (rec .opd C) hi) en).bind fun h en => outO (cutO (valOf en u) l h) en := by funext en; rw [evE]
      rw [e2] at z
      rw [← h.pf.K]
      exact t_slc hs' z
    · exact pe_nop
  · rename_i a lo st p2 pos
    split
    · rename_i p hp
      exact s_op1 h (ok_stpP hp) (pe_stpP hp (hr0 .opd a))
    · exact pe_nop
  · rename_i x px b pos hnot hnot2
    split
    · split
      · rename_i i hi
        split
        · rename_i c
          have e2 : evE g (.plx i [] (rec .opd C b)) = fun en => if isOwn (getP en i []) then (evE g (rec .opd C b) en).bind (kPlx i []) else .bad := by funext en; rw [evE]
          refine PE.imp (pe_ix ix_list (s_var h hi) (hr0 .opd b) (ix_plain c)) fun σ H Q z => ?_
          rw [e2] at z
          rw [← h.pf.K]
          exact t_plx z
        · exact pe_nop
      · exact pe_nop
    · split
      · rename_i c
        rw [Bool.and_eq_true] at c
        exact s_op2 h c.2 (pe_ix ((ix_list.or ix_tup).or (ix_dict h.hu)) (hr0 .opd _) (hr0 .opd b) (ix_plain c.1))
      · exact pe_nop
  · rename_i a b pos hnot hnot2 hnot3
    split
    · rename_i c
      rw [Bool.and_eq_true] at c
      exact s_op2 h c.2 (pe_ix ((ix_list.or ix_tup).or (ix_dict h.hu)) (hr0 .opd a) (hr0 .opd b) (ix_plain c.1))
    · exact pe_nop
  · exact s_call0 h hr0
  · rename_i x px k' sp m apos a pos
    split
    · unfold cMux
      split
      · rename_i c
        simp only [Bool.and_eq_true, decide_eq_true_eq] at c
        obtain ⟨⟨⟨⟨c1, c2⟩, c3⟩, c4⟩, c5⟩ := c
        subst c4
        split
        · rename_i i hi
          have hp : plainEs [a] = true := by simp [plainEs, c2]
          obtain ⟨pa, _, _⟩ := s_args (rec := rec) (C := C) (es := [a]) (t := .cons (rec .val C a) .nil) (md := .val) (.inr rfl) hp (fun e _ => hr0 .val e) (by
            simp only [List.map_cons, List.map_nil, argsT, consT]
            simp [ncT])
          have e2 : evE g (.mux .append i [] (rec .opd C k') (.cons (rec .val C a) .nil)) = fun en => if isOwn (getP en i []) then (evE g (rec .opd C k') en).bind fun w e => match plxO (getP e i []) (valOf e w) with
              | some j => if fits .append (getP e i ([] ++ [j])) then (evA g (.cons (rec .val C a) .nil) e).bind (kMut .append i ([] ++ [j])) else .bad
              | none => .bad else .bad := by funext en; rw [evE]; try rfl
          have e3 : ncT (.cons (rec .val C a) .nil) = true := by simp [ncT, c5]
          rw [e3] at pa
          refine PE.imp (pe_bm PySem.F.plainAttrs_list (slot_M .append) (type_M .append) (mt_M .append) (pe_ix ix_list (s_var h hi) (hr0 .opd k') (ix_plain c3)) pa (base_of rfl) (by
            rw [star_all hp pos]
            rfl) c1 (star_cons c2) rfl) fun σ H Q z => ?_
          rw [e2] at z
          rw [← h.pf.K]
          exact t_mux z
        · exact pe_nop
      · exact pe_nop
    · exact s_mth0 h hr0
  · exact s_mth0 h hr0
  · exact s_lc0 h hr
  · exact s_dcG (R := fun t => PE X _ t) h hr pe_nop (fun t t' q z => PE.imp z q) fun hc hi blk hg ht hk hv hs => pe_dcX h.hu hc h.nd hi blk hg ht hk hv hs
  · have e2 : evE g .dct = fun en => .ok (.sl (.odic [])) en := by funext en; rw [evE]
    rw [e2]
    exact PE.imp pe_dnewK fun σ H Q z => t_dct z
  · exact pe_nop
theorem s_val (h : XOk P G g k C X EX) (hr : ∀ md e, Snd G g X EX md e (rec md C e)) (e : Expr) : PE X e (tE G EX (ncT (cVal P rec n C e)) (evE g (cVal P rec n C e))) := by
  unfold cVal
  split
  · rename_i x pos
    cases z : vIx C x with
    | some i =>
      have e2 : evE g (.nam i) = fun en => readP en i [] := by funext en; rw [evE]
      show PE X (.Name x pos) (tE G EX true (evE g (.nam i)))
      rw [e2]
      exact PE.imp (s_var h z) fun σ H Q z => t_nam z
    | none => exact s_glob h
  · rename_i o f pos
    split
    · rename_i i r hpl
      have e2 : evE g (.rdp i r.reverse) = fun en => readP en i r.reverse := by funext en; rw [evE]
      show PE X (.Attribute o f pos) (tE G EX true (evE g (.rdp i r.reverse)))
      rw [e2]
      exact PE.imp (s_pl h hpl) fun σ H Q z => t_rdp h.pf.att (cPl_lt hpl) z
    · exact hr .opd _
  · exact hr .opd _
theorem s_ret (h : XOk P G g k C X EX) (hr : ∀ md e, Snd G g X EX md e (rec md C e)) (e : Expr) : PE X e (tE G EX (ncT (cRet rec C e)) (evE g (cRet rec C e))) := by
  unfold cRet
  split
  · rename_i x pos
    cases z : vIx C x with
    | some i =>
      have e2 : evE g (.mov i) = kMov i := by funext en; rw [evE]
      show PE X (.Name x pos) (tE G EX true (evE g (.mov i)))
      rw [e2]
      exact PE.imp (s_var h z) fun σ H Q z => t_mov z
    | none => exact hr .val _
  · exact hr .val _
theorem s_itr (h : XOk P G g k C X EX) (hr : ∀ md e, Snd G g X EX md e (rec md C e)) (e tg : Expr) : PI X tg e (tI G EX (ncT (cItr rec C e)) (evI g (cItr rec C e))) := by
  unfold cItr
  split
  · rename_i es he
    exact opt_map (Pr := fun t => PI X tg e (tI G EX (ncT t) (evI g t))) pi_nop fun as ha => s_rng h hr he ha
  · split
    · rename_i es he
      exact opt_map (Pr := fun t => PI X tg e (tI G EX (ncT t) (evI g t))) pi_nop fun as ha => s_rng3 h hr he ha
    · have go : ∀ {md : Md}, PE X e (tE G EX (ncT (rec md C e)) (evE g (rec md C e))) → PI X tg e (tI G EX (ncT (.isq (rec md C e))) (evI g (.isq (rec md C e)))) := fun {md} hp => by
        refine PI.imp (PI.or (pi_list hp) (pi_tup hp)) fun σ H R z => ?_
        have e2 : evI g (.isq (rec md C e)) = fun en => (evE g (rec md C e) en).bind kIsq := by funext en; rw [evI]
        rw [e2] at z
        rw [← h.pf.K]
        exact it_isq z
      split
      · exact go (hr .val _)
      · exact go (hr .opd _)
theorem s_itrT (h : XOk P G g k C X EX) (hr : ∀ md e, Snd G g X EX md e (rec md C e)) (e : Expr) (es : List Expr) (kk : Nat) (tpos : Pos) : PI X (.Tuple es kk tpos) e (tI G EX (ncT (cItrT rec C e)) (evI g (cItrT rec C e))) := by
  unfold cItrT
  split
  · rename_i x q a pos
    split
    · rename_i c
      simp only [Bool.and_eq_true, decide_eq_true_eq] at c
      obtain ⟨c1, c2, c3, c4⟩ := c
      subst c1
      obtain ⟨h1, _⟩ := isGl_ok h c2
      have go : ∀ {md : Md}, PE X a (tE G EX (ncT (rec md C a)) (evE g (rec md C a))) → PI X (.Tuple es kk tpos) (.Call (.Name "enumerate" q) [a] [] pos) (tI G EX (ncT (.ien (rec md C a))) (evI g (.ien (rec md C a)))) := fun {md} hp => by
        refine PI.imp (pi_enumA h1 (nb_of h (by decide)) (pa1 hp c3) (star_cons c3)) fun σ H R z => ?_
        have e2 : evI g (.ien (rec md C a)) = fun en => (evE g (rec md C a) en).bind kIen := by funext en; rw [evI]
        rw [e2] at z
        rw [← h.pf.K]
        exact it_ien z
      split
      · exact go (hr .val _)
      · exact go (hr .opd _)
    · exact s_itr h hr _ _
  · exact s_itr h hr _ _
theorem sound : ∀ (n : Nat) {C : CC} {X : Cx} {EX : WX}, XOk P G g k C X EX → ∀ md e, Snd G g X EX md e (cE P n md C e)
  | 0, C, X, EX, h, md, e => by
    cases md with
    | tst => exact pt_nil
    | itr => exact fun tg => pi_nop
    | itrT => exact fun es kk pos => pi_nop
    | _ => exact pe_nop
  | n + 1, C, X, EX, h, md, e => by
    have hr : ∀ {C : CC} {X : Cx} {EX : WX}, XOk P G g k C X EX → ∀ md e, Snd G g X EX md e (cE P n md C e) := fun h => sound n h
    cases md with
    | opd => exact s_opd h hr e
    | val => exact s_val h (hr h) e
    | ret => exact s_ret h (hr h) e
    | tst => exact s_tst h (hr h) e
    | itr => exact fun tg => s_itr h (hr h) e tg
    | itrT => exact fun es kk pos => s_itrT h (hr h) e es kk pos
end
end RF
set_option maxHeartbeats 1000000
namespace RF
open PySem PySem.Spec PyProof.Rows L2 Evl
def notComp : Expr → Bool
  | .ListComp _ _ _ _ => false
  | .SetComp _ _ _ _ => false
  | .DictComp _ _ _ _ _ => false
  | _ => true
def notTup : Expr → Bool
  | .Tuple _ _ _ => false
  | _ => true
def augP : Operator → Option P2
  | .Add => some .add
  | .Sub => some .sub
  | .Mult => some .mul
  | _ => none
def rootI : T → Option Nat
  | .isq (.plc i []) => some i
  | .ien (.plc i []) => some i
  | _ => none
section
variable (P : PTab) (n : Nat) (C : CC)
def cAsg (tg e : Expr) : T := match tg with
  | .Name x px => if stoK C C.sc x then match ixOf x C.N with
      | some i => if notComp e then .asg (.tnm i) (cE P n .val C e) else match e with
        | .ListComp elt [⟨tg, iter, ifs, 0⟩] scope pos =>
          if (px.line == pos.line) && !(scope.names.any fun (n, k) => n == x && (k == .local || k == .cell)) && (C.sc.names.lookup x == some .local) then .asg (.tnm i) (cLc (cE P n) C n elt tg iter ifs scope)
          else .nil
        | .DictComp kx vx [⟨tg, iter, ifs, 0⟩] scope pos =>
          if (px.line == pos.line) && !(scope.names.any fun (n, k) => n == x && (k == .local || k == .cell)) && (C.sc.names.lookup x == some .local) then .asg (.tnm i) (cDc (cE P n) C n kx vx tg iter ifs scope)
          else .nil
        | _ => .nil
      | none => .nil
    else .nil
  | .Tuple es _ _ => if notTup e && notComp e then match cTg C C.sc n tg with
      | .ttp ts => .asg (.ttp ts) (cE P n .val C e)
      | _ => .nil
    else .nil
  | .Attribute o f _ => if notComp e then match cPl P C n o, P.an.lookup f with
      | some (i, r), some k => .fset i r.reverse k (cE P n .val C e)
      | _, _ => .nil
    else .nil
  | .Subscript o i _ => if notComp e && notTup e && nilE i then match cPl P C n o with
      | some (j, r) => if (r.isEmpty || ncT (cE P n .opd C i)) && (rtT (cE P n .val C e) || ncT (cE P n .opd C i)) then .iset j r.reverse (cE P n .opd C i) (cE P n .val C e) else .nil
      | none => .nil
    else .nil
  | _ => .nil
def rootOk (ti tT tb : T) : Bool := match rootI ti with
  | some i => noSto i tb && !(tgIx tT).contains i
  | none => true
def seqT (f : Stmt → T) : List Stmt → T
  | [] => .nop
  | [a] => f a
  | a :: r => .seq (f a) (seqT f r)
def hndC (P : PTab) (C : CC) (x : Str) : Option Nat := if isGl C x then match P.cl.lookup x with
    | some c => if P.xd.contains c && decide (c ≠ 1000) then some c else none
    | none => none
  else none
def cRse (P : PTab) (C : CC) (x : Str) : T := if C.calm && isGl C x then match P.cl.lookup x with
    | some c => if P.xs.contains c then .rse c .nil else .nil
    | none => .nil
  else .nil
def stepS (rec : CC → Stmt → T) : Stmt → T
  | .Assign [tg] e _ => cAsg P n C tg e
  | .AugAssign (.Name x _) op e _ => if stoK C C.sc x then match ixOf x C.N, augP op with
      | some i, some p => .aug i p (cE P n .opd C e)
      | _, _ => .nil
    else .nil
  | .Expr (.Constant (.str _) _ _) _ => .nop
  | .Expr e _ => if notComp e then .xpr (cE P n .opd C e) else .nil
  | .If c a b _ => .sif (cE P n .tst C c) (seqT (rec C) a) (seqT (rec C) b)
  | .While c b [] _ => .whl (cE P n .tst C c) (seqT (rec C) b)
  | .For tg it b [] _ =>
    let ti := cE P n (itm tg) C it
    let tT := cTg C C.sc n tg
    let tb := seqT (rec C) b
    if C.calm && cLc.okFold it && rootOk ti tT tb then .sfor tT ti tb else .nil
  | .Return (some e) _ => .ret (cE P n .ret C e)
  | .Return none _ => .retN
  | .Pass _ => .nop
  | .Break _ => .brk
  | .Continue _ => .cnt
  | .Raise (some (.Call (.Name x _) [] [] _)) none _ => cRse P C x
  | .Try b [.ExceptHandler (some (.Name x _)) none (s0 :: su) _] [] [] _ => match hndC P C x with
    | some c => if C.calm then .tri c [] (seqT (rec C) b) (seqT (rec { C with calm := false, xn := [] }) (s0 :: su)) else .nil
    | none => .nil
  | .Try b [.ExceptHandler (some (.Name x _)) (some y) (s0 :: su) _] [] [] _ => match hndC P C x, ixOf y C.N with
    | some c, some i => if C.calm && (C.sc.names.lookup y == some .local) then .tri c [i] (seqT (rec C) b) (seqT (rec { C with calm := false, xn := [y] }) (s0 :: su)) else .nil
    | _, _ => .nil
  | _ => .nil
end
def cS0 (P : PTab) (n : Nat) : Nat → CC → Stmt → T
  | 0 => fun _ _ => .nil
  | m + 1 => fun C => stepS P n C (cS0 P n m)
abbrev cS (P : PTab) (n : Nat) (C : CC) (m : Nat) : Stmt → T := cS0 P n m C
end RF
set_option maxHeartbeats 1000000
namespace RF
open PySem PySem.Spec PyProof.Rows L2 Evl
section
variable {X : Cx} {C : Addr} {bmB : List Value} {B newId initId : String}
theorem pmk_none {x : Str} {p pos : Pos} (F : ExcBaseFacts B newId initId bmB) (q : PySem.W.excIn X.K C bmB newId = true) (gC : X.mg x = some (.ref C)) (kC : PySem.W.keepIn X.K (.ref C) = true) (r : Raises X (.ref C)) (hg : L2.Gl X x)
    (hdb : (x == ("__debug__" : Str)) = false) : PMk X (.Call (.Name x p) [] [] pos) (fun _ H Q => Q (.ref C) none H) := by
  intro pins s σ H Q I h
  refine wpAny_Call_Name_kw (ld_glob I hg gC ?_ hdb)
  refine PySem.W.callWith_K0 I.kIn kC ?_
  obtain ⟨bm, N, nm, qn, bs, hdct, sn, sub, ab, col, dd, k0, k1, k2, k3, k5, mN, hC, hN, hni, T⟩ := exc_obj I.kIn q
  exact wpAny_call_exc_subT F T hC hN hni (fun h' e hm => mk_of I hm r h (I.hok.gone hm.new)) (Nat.zero_le _)
end
def Gr.wx (G : Gr) (f : Addr → Nat → Prop) : Gr := { G with xa := f }
section
variable {G : Gr} {f : Addr → Nat → Prop} {I H : Hp}
mutual
theorem Rep.wx : ∀ {v : V} {p : PV}, Rep G I v p → Rep (G.wx f) I v p
  | _, _, .non => .non
  | _, _, .bl b => .bl b
  | _, _, .int i => .int i
  | _, _, .str x => .str x
  | _, _, .tup h r => .tup h r.wx
  | _, _, .lst h r => .lst h r.wx
  | _, _, .xls h r => .xls h r.wx
  | _, _, .dic h r => .dic h r.wx
  | _, _, .ins h t r => .ins (G := G.wx f) h t r.wx
theorem RepL.wx : ∀ {v : List V} {p : List PV}, RepL G I v p → RepL (G.wx f) I v p
  | _, _, .nil => .nil
  | _, _, .cons h r => .cons h.wx r.wx
theorem RepF.wx : ∀ {v : List (Str × V)} {p : List (Nat × PV)}, RepF G I v p → RepF (G.wx f) I v p
  | _, _, .nil => .nil
  | _, _, .cons h r => .cons (G := G.wx f) h.wx r.wx
theorem RepK.wx : ∀ {a : Addr} {v : HO} {p : List (PV × PV)}, RepK G I a v p → RepK (G.wx f) I a v p
  | _, _, _, .nil => .nil
  | _, _, _, .cons h r => .cons h.wx r.wx
  | _, _, _, .nest ne r => .nest (G := G.wx f) ne r.wx
theorem RepN.wx : ∀ {v : List (NKey × Addr × Value)} {p : List (PV × PV)}, RepN G I v p → RepN (G.wx f) I v p
  | _, _, .nil => .nil
  | _, _, .cons hk hp hv h r => .cons hk hp.wx hv h.wx r.wx
end
mutual
theorem SRep.wx : ∀ {v : V} {s : Slot} {F : List Addr}, SRep G I H v s F → noX s = true → SRep (G.wx f) I H v s F
  | _, _, _, .val h, _ => .val h.wx
  | _, _, _, .dead, _ => .dead
  | _, _, _, .exn _, h => by rw [noX] at h; cases h
  | _, _, _, .own _ _, h => by rw [noX] at h; cases h
  | _, _, _, .olst h r, _ => .olst h r.wx
  | _, _, _, .odic h r, _ => .odic h r.wx
  | _, _, _, .oins h t r, k => .oins (G := G.wx f) h t (r.wx (by rw [noX] at k; exact k))
theorem SRepF.wx : ∀ {v : List (Str × V)} {s : List (Nat × Slot)} {F : List Addr}, SRepF G I H v s F → noXF s = true → SRepF (G.wx f) I H v s F
  | _, _, _, .nil, _ => .nil
  | _, _, _, .cons h r, k => by
    rw [noXF, Bool.and_eq_true] at k
    exact .cons (G := G.wx f) (h.wx k.1) (r.wx k.2)
end
theorem EnvR.wx : ∀ {σ : L2.St} {e : RF.Env} {F : List Addr}, EnvR G I H σ e F → noXs e = true → EnvR (G.wx f) I H σ e F
  | _, _, _, .nil, _ => .nil
  | _, _, _, .no r, k => by
    unfold noXs at k
    rw [List.all_cons, Bool.and_eq_true] at k
    exact .no (r.wx k.2)
  | _, _, _, .hv h r, k => by
    unfold noXs at k
    rw [List.all_cons, Bool.and_eq_true] at k
    exact .hv (h.wx k.1) (r.wx k.2)
theorem W.wx {σ : L2.St} {e : RF.Env} {F : List Addr} (w : W G I H σ e F) (k : noXs e = true) : W (G.wx f) I H σ e F := ⟨w.ex, w.env.wx k, w.nd, w.fr⟩
theorem W.unset {σ : L2.St} {e : RF.Env} {F : List Addr} (w : W G I H σ e F) (i : Nat) : ∃ F', W G I H (σ.set i none) (e.set i .dead) F' ∧ F'.Sublist F := by
  obtain ⟨F', h1, h2⟩ := w.env.unset i
  exact ⟨F', ⟨w.ex, h1, w.nd.sublist h2, fun a ha => w.fr a (h2.subset ha)⟩, h2⟩
end
section
variable {G : Gr} {EX : WX} {kp : Nat → Bool} {I I1 I' H H1 H' : Hp} {F F1 F' : List Addr} {σ σ' σ1 : L2.St} {e e1 e' : RF.Env} {D D' : Ends} {g : RF.Gl}
theorem t_rse {c : Nat} (z : tS G EX kp (evS g (.rse c .nil)) D σ H) : EX (.ref (G.cl c)) none σ H := by
  obtain ⟨I, e, F, w, q⟩ := z
  have e2 : evS g (.rse c .nil) e = kRse g c [] e := by rw [evS, evA]; rfl
  rw [e2] at q
  unfold kRse at q
  cases hx : g.xat c with
  | none => rw [hx] at q; exact q.elim
  | some ns =>
    rw [hx] at q
    have hu : upsOf e ([] : List EV) = some [] := by rw [upsOf]
    rw [hu] at q
    dsimp only at q
    split at q
    · rename_i hl
      have : ns = [] := List.eq_nil_of_length_eq_zero hl.symm
      subst this
      exact q (.ref (G.cl c)) none σ I H F (Stp.refl _) w Kept.refl ⟨rfl, .inl ⟨rfl, rfl⟩⟩
    · exact q.elim
def wTri (G : Gr) (EX : WX) (g : RF.Gl) (c : Nat) (cv : Value) (ts : Addr → Value → Option Addr → TS) (fin : L2.St → L2.St) (D : Ends) : WX := fun cls d σ H =>
  ∃ b, PySem.W.exmOne G.K cls cv = some b ∧ (b = true → ∀ a, H a = none → ts a cls d D σ H) ∧ (b = false → EX cls d σ H)
def xaAt (G : Gr) (a : Addr) (cls : Value) (d : Option Addr) (g : RF.Gl) : Addr → Nat → Prop := fun b c => b = a ∧ cls = .ref (G.cl c) ∧ d = none ∧ g.isx c = true
theorem t_tri0 {c : Nat} {b su : T} {cv : Value} (hex : ∀ c', g.isx c' = true → PySem.W.exmOne G.K (.ref (G.cl c')) cv = some (g.sub c' c)) (z : tS G EX kp (evS g (.tri c [] b su)) D σ H) :
    tS G (wOnly G.K cv (fun a cls d => tS (G.wx (xaAt G a cls d g)) EXf kp (evS g su)) EX D) kp (evS g b) D σ H := by
  obtain ⟨I, e, F, w, q⟩ := z
  have e2 : evS g (.tri c [] b su) e = (match evS g b e with
    | .exc x e1 => if g.isx x.c then (if g.sub x.c c then (if triOk g [] x e1 then triOut [] (evS g su (triIn [] x e1)) else .bad) else .exc x e1) else .bad
    | r => r) := by rw [evS] <;> rfl
  rw [e2] at q
  refine ⟨I, e, F, w, ?_⟩
  cases hb : evS g b e with
  | nx e1 => rw [hb] at q; exact q
  | rt s e1 => rw [hb] at q; exact q
  | bk e1 => rw [hb] at q; exact q
  | ct e1 => rw [hb] at q; exact q
  | bad => rw [hb] at q; exact q
  | exc x e1 =>
    rw [hb] at q
    dsimp only at q
    intro cls d σ1 I1 H1 F1 st w1 k1 xr
    obtain ⟨hc, hd⟩ := xr
    subst hc
    split at q
    case isFalse => exact q.elim
    rename_i hx
    refine ⟨g.sub x.c c, hex _ hx, fun hs a na => ?_, fun hs => ?_⟩
    · rw [if_pos hs] at q
      split at q
      case isFalse => exact q.elim
      rename_i ok
      unfold triOk at ok
      rw [Bool.and_eq_true] at ok
      refine ⟨I1, e1, F1, w1.wx ok.1, ?_⟩
      have q := q.shift st k1
      unfold triIn at q
      cases hr : evS g su e1 with
      | nx e2 =>
        rw [hr] at q
        unfold triOut triOff at q
        dsimp only at q
        split at q
        · rename_i hn
          exact fun σ2 I2 H2 F2 st2 w2 k2 => q σ2 I2 H2 F2 st2 (w2.wx (f := G.xa) hn) k2
        · exact q.elim
      | bk e2 =>
        rw [hr] at q
        unfold triOut triOff at q
        dsimp only at q
        split at q
        · rename_i hn
          exact fun σ2 I2 H2 F2 st2 w2 k2 => q σ2 I2 H2 F2 st2 (w2.wx (f := G.xa) hn) k2
        · exact q.elim
      | ct e2 =>
        rw [hr] at q
        unfold triOut triOff at q
        dsimp only at q
        split at q
        · rename_i hn
          exact fun σ2 I2 H2 F2 st2 w2 k2 => q σ2 I2 H2 F2 st2 (w2.wx (f := G.xa) hn) k2
        · exact q.elim
      | rt s e2 =>
        rw [hr] at q
        unfold triOut triOff at q
        dsimp only at q
        split at q
        · rename_i hn
          rw [Bool.and_eq_true] at hn
          exact fun v σ2 I2 H2 F2 Fs st2 w2 k2 r nd fr => q v σ2 I2 H2 F2 Fs st2 (w2.wx (f := G.xa) hn.2) k2 (r.wx (f := G.xa) hn.1) nd fr
        · exact q.elim
      | exc x e2 => rw [hr] at q; exact q.elim
      | bad => rw [hr] at q; exact q.elim
    · rw [if_neg (by rw [hs]; decide)] at q
      exact q _ d σ1 I1 H1 F1 st w1 k1 ⟨rfl, hd⟩
theorem t_tri1 {c i : Nat} {b su : T} {cv : Value} (hki : kp i = false) (hex : ∀ c', g.isx c' = true → PySem.W.exmOne G.K (.ref (G.cl c')) cv = some (g.sub c' c)) (z : tS G EX kp (evS g (.tri c [i] b su)) D σ H) :
    tS G (wAs G.K cv i (fun a cls d => tS (G.wx (xaAt G a cls d g)) EXf kp (evS g su)) EX D) kp (evS g b) D σ H := by
  obtain ⟨I, e, F, w, q⟩ := z
  have e2 : evS g (.tri c [i] b su) e = (match evS g b e with
    | .exc x e1 => if g.isx x.c then (if g.sub x.c c then (if triOk g [i] x e1 then triOut [i] (evS g su (triIn [i] x e1)) else .bad) else .exc x e1) else .bad
    | r => r) := by rw [evS] <;> rfl
  rw [e2] at q
  refine ⟨I, e, F, w, ?_⟩
  cases hb : evS g b e with
  | nx e1 => rw [hb] at q; exact q
  | rt s e1 => rw [hb] at q; exact q
  | bk e1 => rw [hb] at q; exact q
  | ct e1 => rw [hb] at q; exact q
  | bad => rw [hb] at q; exact q
  | exc x e1 =>
    rw [hb] at q
    dsimp only at q
    intro cls d σ1 I1 H1 F1 st w1 k1 xr
    obtain ⟨hc, hd⟩ := xr
    subst hc
    split at q
    case isFalse => exact q.elim
    rename_i hx
    refine ⟨g.sub x.c c, hex _ hx, fun hs a na => ?_, fun hs => ?_⟩
    · rw [if_pos hs] at q
      split at q
      case isFalse => exact q.elim
      rename_i ok
      unfold triOk at ok
      rw [Bool.and_eq_true, Bool.and_eq_true, List.isEmpty_iff, decide_eq_true_eq] at ok
      obtain ⟨ok1, ok2, ok3⟩ := ok
      have hd : d = none := by
        rcases hd with ⟨_, q2⟩ | ⟨q2, _⟩
        · exact q2
        · exact absurd ok2 q2
      have w2 : W (G.wx (xaAt G a (.ref (G.cl x.c)) d g)) I1 H1 σ1 e1 F1 := w1.wx ok1
      have hs0 : SRep (G.wx (xaAt G a (.ref (G.cl x.c)) d g)) I1 H1 (.ref a) (.exn x.c x.fs) [] := .exn ⟨rfl, rfl, hd, hx⟩
      obtain ⟨F3, en3, F0, sub3, hF3⟩ := w2.env.set i hs0
      have sub4 : F3.Sublist F1 := by
        rcases hF3 with rfl | ⟨C1, C2, rfl, rfl⟩
        · exact sub3
        · simpa using sub3
      have w3 : W (G.wx (xaAt G a (.ref (G.cl x.c)) d g)) I1 H1 (σ1.set i (some (.ref a))) (e1.set i (.exn x.c x.fs)) F3 := ⟨w2.ex, en3, w2.nd.sublist sub4, fun a ha => w2.fr a (sub4.subset ha)⟩
      refine ⟨I1, e1.set i (.exn x.c x.fs), F3, w3, ?_⟩
      have st3 : Stp false I H F I1 H1 F3 := st.weak (fun z => z) fun a ha => sub4.subset ha
      have k3 : Kept kp σ (σ1.set i (some (.ref a))) := k1.trans (kept_set hki)
      have q := q.shift st3 k3
      have ti : triIn [i] x e1 = e1.set i (.exn x.c x.fs) := rfl
      rw [ti] at q
      cases hr : evS g su (e1.set i (.exn x.c x.fs)) with
      | nx e2 =>
        rw [hr] at q
        unfold triOut triOff at q
        dsimp only at q
        split at q
        · rename_i hn
          intro σ2 I2 H2 F2 st2 w2 k2
          obtain ⟨F5, w5, s5⟩ := w2.unset i
          exact q (σ2.set i none) I2 H2 F5 (st2.weak (fun z => z) fun a ha => s5.subset ha) (w5.wx (f := G.xa) hn) (k2.trans (kept_set hki))
        · exact q.elim
      | bk e2 =>
        rw [hr] at q
        unfold triOut triOff at q
        dsimp only at q
        split at q
        · rename_i hn
          intro σ2 I2 H2 F2 st2 w2 k2
          obtain ⟨F5, w5, s5⟩ := w2.unset i
          exact q (σ2.set i none) I2 H2 F5 (st2.weak (fun z => z) fun a ha => s5.subset ha) (w5.wx (f := G.xa) hn) (k2.trans (kept_set hki))
        · exact q.elim
      | ct e2 =>
        rw [hr] at q
        unfold triOut triOff at q
        dsimp only at q
        split at q
        · rename_i hn
          intro σ2 I2 H2 F2 st2 w2 k2
          obtain ⟨F5, w5, s5⟩ := w2.unset i
          exact q (σ2.set i none) I2 H2 F5 (st2.weak (fun z => z) fun a ha => s5.subset ha) (w5.wx (f := G.xa) hn) (k2.trans (kept_set hki))
        · exact q.elim
      | rt s e2 =>
        rw [hr] at q
        unfold triOut triOff at q
        dsimp only at q
        split at q
        · rename_i hn
          rw [Bool.and_eq_true] at hn
          intro v σ2 I2 H2 F2 Fs st2 w2 k2 r nd fr
          obtain ⟨F5, w5, s5⟩ := w2.unset i
          have sub5 : (Fs ++ F5).Sublist (Fs ++ F2) := List.Sublist.append (List.Sublist.refl _) s5
          exact q v (σ2.set i none) I2 H2 F5 Fs (st2.weak (fun z => z) fun a ha => sub5.subset ha) (w5.wx (f := G.xa) hn.2) (k2.trans (kept_set hki)) (r.wx (f := G.xa) hn.1) (nd.sublist sub5) fr
        · exact q.elim
      | exc x e2 => rw [hr] at q; exact q.elim
      | bad => rw [hr] at q; exact q.elim
    · rw [if_neg (by rw [hs]; decide)] at q
      exact q _ d σ1 I1 H1 F1 st w1 k1 ⟨rfl, hd⟩
end
end RF
set_option maxHeartbeats 1000000
namespace RF
open PySem PySem.Spec PyProof.Rows L2 Evl
structure DOk (P : PTab) (G : Gr) (g : RF.Gl) (k : Nat) (C : CC) (X : Cx) (EX : WX) : Prop extends XOk P G g k C X EX where
  fn : ∀ x, X.fn x = true
  kind : C.sc.kind = .function
  po : PassesOwn (model X.prog X.w) X.A X.env X.xe
  stk : X.stack = X.env :: X.outer
  frm : X.env.frame = some X.env.locals
section
variable {P : PTab} {G : Gr} {g : RF.Gl} {k : Nat} {C : CC} {X : Cx} {EX : WX} {n : Nat} {kp : Nat → Bool}
theorem ps_bad {st : Stmt} {f : RF.Env → SR} (h : ∀ en, f en = .bad) : PS X st (tS G EX kp f) := ⟨fun pins s σ H D J z => by
  obtain ⟨I, en, F, w, q⟩ := z
  rw [h en] at q
  exact q.elim⟩
theorem ps_nil {st : Stmt} : PS X st (tS G EX kp (evS g .nil)) := ps_bad fun en => by simp [evS]
theorem sw_no {e : Expr} {t : Option Expr} {l : Nat} {env : PySem.Env} (h : notComp e = true) : swapsWith e t l env = pure false := by cases e <;> first | rfl | cases h
theorem stoK_loc (h : DOk P G g k C X EX) {x : Str} (c : stoK C C.sc x = true) : L2.Loc X.env.scope x := by
  unfold L2.Loc
  rw [h.sc]
  unfold stoK at c
  split at c
  · rename_i e; exact .inl e
  · rename_i e; exact .inr e
  · cases c
theorem kp_not {i : Nat} {t : T} (hk : ∀ j, kp j = true → noSto j t = true) (h : noSto i t = false) : kp i = false := by
  cases z : kp i with
  | false => rfl
  | true => rw [hk i z] at h; cases h
theorem noSto_tg : ∀ {t : T} {j : Nat}, j ∈ tgIx t → noSto j t = false := by
  intro t
  induction t with
  | tnm i => intro j h; rw [tgIx, List.mem_singleton] at h; subst h; simp [noSto]
  | ttp ts ih => intro j h; rw [tgIx] at h; rw [noSto]; exact ih h
  | cons a r ih1 ih2 =>
    intro j h
    rw [tgIx, List.mem_append] at h
    rw [noSto]
    rcases h with h | h
    · rw [ih1 h]; rfl
    · rw [ih2 h]; simp
  | _ => intro j h; simp [tgIx] at h
theorem e_asg {tg x : T} : evS g (.asg tg x) = fun en => SR.of (evE g x en) (kAsg tg) := by funext en; rw [evS]
theorem s_asg (h : DOk P G g k C X EX) {tg e : Expr} {pos : Pos} (hk : ∀ j, kp j = true → noSto j (cAsg P n C tg e) = true) : PS X (.Assign [tg] e pos) (tS G EX kp (evS g (cAsg P n C tg e))) := by
  have snd := fun md e => sound (P := P) (G := G) (g := g) n h.toXOk md e
  have hN := h.nN
  have hnd := h.nd
  revert hk
  unfold cAsg
  split
  · rename_i x px
    split
    · rename_i c
      have hloc := stoK_loc h c
      split
      · rename_i i hi
        have hi' : X.N[i]? = some x := by rw [hN]; exact ixOf_get hi
        split
        · rename_i hc
          intro hk
          have hki : kp i = false := kp_not hk (by simp [noSto])
          refine PS.imp (ps_set hnd hi' hloc (snd .val e) (sw_no hc) (.inl (h.fn x))) fun D σ H z => ?_
          rw [e_asg] at z
          exact t_asgN hki z
        · split
          · rename_i elt tg iter ifs scope lpos _
            split
            · rename_i cc
              intro hk
              have hki : kp i = false := kp_not hk (by simp [noSto])
              rw [Bool.and_eq_true, Bool.and_eq_true, Bool.not_eq_true', beq_iff_eq (a := C.sc.names.lookup x)] at cc
              obtain ⟨⟨cl, ca⟩, cy⟩ := cc
              have hyl : X.env.scope.names.lookup x = some .local := by rw [h.sc]; exact cy
              have hsw : swapsWith (.ListComp elt [⟨tg, iter, ifs, 0⟩] scope lpos) (some (.Name x px)) pos.line X.env = pure true := sw_true (by rw [h.sc]; exact h.kind) hyl cl ca
              -- the comprehension, as in s_lc0
              have key : PS X (.Assign [.Name x px] (.ListComp elt [⟨tg, iter, ifs, 0⟩] scope lpos) pos) (tAsg (tE G EX (ncT (cLc (cE P n) C n elt tg iter ifs scope)) (evE g (cLc (cE P n) C n elt tg iter ifs scope))) (gName i)) := by
                unfold cLc
                dsimp only
                split
                · rename_i c
                  rw [Bool.and_eq_true, Bool.and_eq_true, Bool.and_eq_true] at c
                  obtain ⟨⟨⟨c1, c2⟩, c3⟩, c4⟩ := c
                  have hc := h.calm c1
                  have blk : BlkOk X.N X.env.scope scope (ownN C scope) := by
                    rw [h.nN, h.sc]
                    exact blkOk_by c2
                  have tgo : ∀ j ∈ tgIx (cTg { C with sc := blkSc scope C.sc } scope n tg), j ∈ (ownN C scope).map (·.2) := fun j hj => by
                    have := List.all_eq_true.mp c3 j hj
                    simpa using this
                  have hg : ∀ (s : Shared) (H : Hp) (Cc : Addr) (cl : List (Str × Addr)) (fp : List Addr), PG (X.blk s H scope (compEnvC scope cl Cc X.env) fp) tg (tgR X.K (cTg { C with sc := blkSc scope C.sc } scope n tg)) := fun s H Cc cl fp =>
                    s_tg (X := X.blk s H scope (compEnvC scope cl Cc X.env) fp) (C := { C with sc := blkSc scope C.sc }) h.nN h.nd (blk_sc h.sc) h.calm (scope := scope) fun x hx => by
                      unfold stoK at hx
                      split at hx
                      · rename_i e
                        right
                        show (compEnvC scope cl Cc X.env).scope.names.lookup x = some .local
                        rw [blk_sc h.sc]
                        exact e
                      · exact .inl hx
                      · cases hx
                  have e2 : ∀ cs el, evE g (.lc ((ownN C scope).map (·.2)) (cE P n (itm tg) C iter) (cTg { C with sc := blkSc scope C.sc } scope n tg) cs el) = fun en => (evI g (cE P n (itm tg) C iter) en).bind (kLc ((ownN C scope).map (·.2)) (cTg { C with sc := blkSc scope C.sc } scope n tg) (evT g cs) (evE g el)) := fun cs el => by funext en; rw [evE]
                  have hi : PI X tg iter (tI G EX (ncT (cE P n (itm tg) C iter)) (evI g (cE P n (itm tg) C iter))) := pi_itm (snd (itm tg) iter)
                  have root : ∀ e xy e', evI g (cE P n (itm tg) C iter) e = .ok xy e' → ∀ i fs, xy.1 = .pl i fs → fs = [] := fun e xy e' q i fs hx => (evI_root q hx).1
                  split
                  · have yes : ∀ (s : Shared) (H : Hp) (Cc : Addr) (cl : List (Str × Addr)) (fp : List Addr), PTs (X.blk s H scope (compEnvC scope cl Cc X.env) fp) [] (tT G EXf (ncT .nop) (evT g .nop)) := fun s H Cc cl fp => ⟨fun pins s σ H Q J z => by
                      obtain ⟨I, en, F, w, q⟩ := z
                      rw [evT] at q
                      exact pts_nil.run pins s σ H Q J (q I H F (Stp.refl _) w)⟩
                    refine PS.imp (ps_setLc hc h.nd hi' hyl hsw hi blk hg yes (fun s H Cc cl fp => sound n (h.toXOk.blk c1) .val elt) (fun x => fold_ok c4 x)) fun D σ H z => ?_
                    rw [e2] at z
                    have z2 := t_lc root tgo z
                    rw [h.pf.K] at z2
                    exact z2
                  · rename_i cnd _
                    refine PS.imp (ps_setLc hc h.nd hi' hyl hsw hi blk hg (fun s H Cc cl fp => pts_one (sound n (h.toXOk.blk c1) .tst cnd)) (fun s H Cc cl fp => sound n (h.toXOk.blk c1) .val elt) (fun x => fold_ok c4 x)) fun D σ H z => ?_
                    rw [e2] at z
                    have z2 := t_lc root tgo z
                    rw [h.pf.K] at z2
                    exact z2
                  · exact ⟨fun pins s σ H D J z => by
                      obtain ⟨I, en, F, w, q⟩ := z
                      simp only [evE] at q
                      exact q.elim⟩
                · exact ⟨fun pins s σ H D J z => by
                    obtain ⟨I, en, F, w, q⟩ := z
                    simp only [evE] at q
                    exact q.elim⟩
              refine PS.imp key fun D σ H z => ?_
              rw [e_asg] at z
              exact t_asgN hki z
            · exact fun _ => ps_nil
          · rename_i kx vx tg iter ifs scope lpos _
            split
            · rename_i cc
              intro hk
              have hki : kp i = false := kp_not hk (by simp [noSto])
              rw [Bool.and_eq_true, Bool.and_eq_true, Bool.not_eq_true', beq_iff_eq (a := C.sc.names.lookup x)] at cc
              obtain ⟨⟨cl, ca⟩, cy⟩ := cc
              have hyl : X.env.scope.names.lookup x = some .local := by rw [h.sc]; exact cy
              have hsw : swapsWith (.DictComp kx vx [⟨tg, iter, ifs, 0⟩] scope lpos) (some (.Name x px)) pos.line X.env = pure true := sw_trueD (by rw [h.sc]; exact h.kind) hyl cl ca
              have key : PS X (.Assign [.Name x px] (.DictComp kx vx [⟨tg, iter, ifs, 0⟩] scope lpos) pos) (tAsg (tE G EX (ncT (cDc (cE P n) C n kx vx tg iter ifs scope)) (evE g (cDc (cE P n) C n kx vx tg iter ifs scope))) (gName i)) :=
                s_dcG (R := fun t => PS X _ (tAsg t (gName i))) h.toXOk (fun h md e => sound n h md e) ⟨fun pins s σ H D J z => by
                  obtain ⟨I, en, F, w, q⟩ := z
                  simp only [evE] at q
                  exact q.elim⟩ (fun t t' q z => PS.imp z fun D σ H y => q _ _ _ y) fun hc hi blk hg ht hk hv hs => ps_setDcX h.hu hc h.nd hi' hyl hsw hi blk hg ht hk hv hs
              refine PS.imp key fun D σ H z => ?_
              rw [e_asg] at z
              exact t_asgN hki z
            · exact fun _ => ps_nil
          · exact fun _ => ps_nil
      · exact fun _ => ps_nil
    · exact fun _ => ps_nil
  · rename_i es kk px
    split
    · rename_i c
      rw [Bool.and_eq_true] at c
      have pg := s_tg h.nN h.nd h.sc h.calm (scope := C.sc) (fun x _ => .inl (h.fn x)) (n := n) (e := .Tuple es kk px)
      split
      · rename_i ts hts
        rw [hts] at pg
        intro hk
        refine PS.imp (ps_asg (snd .val e) pg (show swapsWith e (some (.Tuple es kk px)) pos.line X.env = pure false from sw_no c.2) (by cases e <;> first | rfl | cases c.1)) fun D σ H z => ?_
        rw [e_asg] at z
        rw [← h.pf.K]
        exact t_asgT (fun j hj => kp_not hk (by rw [noSto, noSto]; exact noSto_tg hj)) z
      · exact fun _ => ps_nil
    · exact fun _ => ps_nil
  · rename_i o f px
    split
    · rename_i c
      split
      · rename_i i r f' hpl hf
        intro _
        have e2 : evS g (.fset i r.reverse f' (cE P n .val C e)) = fun en => SR.of (evE g (cE P n .val C e) en) (kFset g i r.reverse f') := by funext en; rw [evS]
        refine PS.imp (ps_fld (s_pl h.toXOk hpl) (snd .val e) (sw_no c)) fun D σ H z => ?_
        rw [e2] at z
        have e3 := h.pf.an f f' hf
        rw [← e3, ← h.pf.K]
        exact t_fset (cPl_lt hpl) h.pf.att h.pf.gatt z
      · exact fun _ => ps_nil
    · exact fun _ => ps_nil
  · rename_i o i px
    split
    · rename_i c
      rw [Bool.and_eq_true, Bool.and_eq_true] at c
      split
      · rename_i j r hpl
        split
        · rename_i cc
          rw [Bool.and_eq_true] at cc
          intro _
          have e2 : evS g (.iset j r.reverse (cE P n .opd C i) (cE P n .val C e)) = fun en => SR.of (evE g (cE P n .val C e) en) fun v en => if fitsI (getP en j r.reverse) then SR.of (evE g (cE P n .opd C i) en) (kIset j r.reverse v) else .bad := by funext en; rw [evS]
          refine PS.imp (ps_asg (snd .val e) (pg_sub (s_pl h.toXOk hpl) (snd .opd i) (PSet.or set_list (set_dict h.hu)) (fun v => by cases i <;> first | rfl | cases c.2)) (show swapsWith e (some (.Subscript o i px)) pos.line X.env = pure false from sw_no c.1.1) (by cases e <;> first | rfl | cases c.1.2)) fun D σ H z => ?_
          rw [e2] at z
          rw [← h.pf.K, ← h.pf.w]
          refine t_iset (cPl_lt hpl) h.pf.att ?_ (rt_or cc.2) z
          have c1 := cc.1
          rw [Bool.or_eq_true] at c1
          exact c1.imp (fun q => List.isEmpty_iff.mp q) id
        · exact fun _ => ps_nil
      · exact fun _ => ps_nil
    · exact fun _ => ps_nil
  · exact fun _ => ps_nil
theorem augP_of {op : Operator} {p : P2} (h : augP op = some p) : PIp X op (ipAny X.K p) ∧ ∀ a b z, op2 p a b = some (.val (.int z)) → ∃ i j, a = .int i ∧ b = .int j ∧ ∀ (H : Hp) (Q : VK), Q (.int z) H → ipAny G.K p (.int i) (.int j) H Q := by
  cases op <;> cases h
  · refine ⟨iop_add, fun a b z q => ?_⟩
    cases a <;> cases b <;> simp only [op2] at q <;> try cases q
    · exact ⟨_, _, rfl, rfl, fun H Q h => ⟨_, _, rfl, rfl, h⟩⟩
    all_goals (split at q <;> cases q)
  · refine ⟨iop_sub, fun a b z q => ?_⟩
    cases a <;> cases b <;> simp only [op2] at q <;> try cases q
    exact ⟨_, _, rfl, rfl, fun H Q h => ⟨_, _, rfl, rfl, h⟩⟩
  · refine ⟨iop_mul, fun a b z q => ?_⟩
    cases a <;> cases b <;> simp only [op2] at q <;> try cases q
    split at q
    · rename_i c
      cases q
      exact ⟨_, _, rfl, rfl, fun H Q h => ⟨_, _, rfl, rfl, c, h⟩⟩
    · cases q
theorem noSto_seq {j : Nat} {a b : T} : noSto j (.seq a b) = (noSto j a && noSto j b) := rfl
theorem s_body {f : Stmt → T} (hf : ∀ st (kp : Nat → Bool), (∀ j, kp j = true → noSto j (f st) = true) → PS X st (tS G EX kp (evS g (f st)))) : ∀ {b : List Stmt} {kp : Nat → Bool}, (∀ j, kp j = true → noSto j (seqT f b) = true) → PSs X b (tS G EX kp (evS g (seqT f b)))
  | [], kp, _ => PSs.imp pss_nil fun D σ H z => t_nop (by
      have e2 : evS g (seqT f []) = fun en => .nx en := by funext en; rw [seqT, evS]
      rw [e2] at z; exact z)
  | [a], kp, hk => pss_one (hf a kp hk)
  | a :: b :: r, kp, hk => by
    have e1 : seqT f (a :: b :: r) = .seq (f a) (seqT f (b :: r)) := rfl
    rw [e1] at hk ⊢
    have h1 : ∀ j, kp j = true → noSto j (f a) = true ∧ noSto j (seqT f (b :: r)) = true := fun j hj => by
      have := hk j hj
      rw [noSto_seq, Bool.and_eq_true] at this
      exact this
    refine PSs.imp (pss_cons (hf a kp fun j hj => (h1 j hj).1) (s_body hf fun j hj => (h1 j hj).2)) fun D σ H z => t_seq (by
      have e2 : evS g (.seq (f a) (seqT f (b :: r))) = fun en => match evS g (f a) en with
        | .nx e' => evS g (seqT f (b :: r)) e'
        | r => r := by funext en; rw [evS]; try rfl
      rw [e2] at z
      exact z)
theorem rootI_eq {t : T} {i : Nat} (h : t = .isq (.plc i []) ∨ t = .ien (.plc i [])) : rootI t = some i := by rcases h with rfl | rfl <;> rfl
theorem hnd_ok (h : XOk P G g k C X EX) {x : Str} {c : Nat} (hc : hndC P C x = some c) : Names X x (codeV G c) ∧ c ∈ P.xd ∧ True ∧ True ∧ True := by
  unfold hndC at hc
  split at hc
  case isFalse => cases hc
  rename_i hx
  obtain ⟨k1, k2⟩ := isGl_ok h hx
  split at hc
  case h_2 => cases hc
  rename_i cc hcc
  split at hc
  case isFalse => cases hc
  rename_i hm
  rw [Bool.and_eq_true, decide_eq_true_eq] at hm
  obtain rfl : cc = c := Option.some.inj hc
  refine ⟨⟨k1, k2, .inl ?_⟩, by simpa using hm.1, trivial, trivial, trivial⟩
  unfold codeV
  rw [if_neg hm.2]
  exact h.pf.cl x cc hcc
theorem DOk.tr (h : DOk P G g k C X EX) (hc : C.calm = true) {W' : WX} {pn : List (Addr × Obj)} {xe : Value → Shared → Prop} (tk : Takes (X.tr pn xe) W') (po : PassesOwn (model X.prog X.w) X.A X.env xe) : DOk P G g k C (X.tr pn xe) W' where
  pf := ⟨h.pf.K, h.pf.w, h.pf.att, h.pf.gatt, h.pf.cl, h.pf.an, h.pf.cs, h.pf.gl, h.pf.nb, h.pf.exc, h.pf.kit, h.pf.exm, h.pf.eqn, h.pf.rse⟩
  pc := fun q => ⟨fun x i z => by
    obtain ⟨fa, h1, h2⟩ := (h.pc q).fn x i z
    exact ⟨fa, h1, ⟨h2.ex, h2.kp⟩⟩, fun c z => by
    obtain ⟨i, fa, h1, h2, h3⟩ := (h.pc q).mkr c z
    exact ⟨i, fa, h1, h2, ⟨h3.ex, h3.kp⟩⟩, fun nm m z c i hi => by
    obtain ⟨fa, h1, h2, h3, h4⟩ := (h.pc q).met nm m z c i hi
    exact ⟨fa, h1, h2, ⟨h3.ex, h3.kp⟩, h4⟩⟩
  nN := h.nN
  nd := h.nd
  sc := h.sc
  calm := h.calm
  tk := tk
  hu := h.hu
  rmc := h.rmc
  xa := fun q => by rw [hc] at q; cases q
  fn := h.fn
  kind := h.kind
  po := po
  stk := h.stk
  frm := h.frm
theorem DOk.suite (h : DOk P G g k C X EX) {a : Addr} {oe : Obj} {cls : Value} {d : Option Addr} {pn : List (Addr × Obj)} {xn : List Str} (hz : Zc cls d oe) (hf : ∃ vs, oe.data = .fields vs) : DOk P (G.wx (xaAt G a cls d g)) g k { C with calm := false, xn := xn } (X.suite a ((a, oe) :: pn)) EXf where
  pf := ⟨h.pf.K, h.pf.w, h.pf.att, h.pf.gatt, h.pf.cl, h.pf.an, fun c hc => by
    obtain ⟨a1, a2, a3, a4, a5, a6, a7, a8⟩ := h.pf.cs c hc
    exact ⟨a1, a2, a3, a4, a5, a6, a7, a8⟩, fun x p z => by
    obtain ⟨v, u, h1, h2, h3⟩ := h.pf.gl x p z
    exact ⟨v, u, h1, h2, fun I => (h3 I).wx⟩, h.pf.nb, h.pf.exc, h.pf.kit, h.pf.exm, h.pf.eqn, h.pf.rse⟩
  pc := fun q => by cases q
  nN := h.nN
  nd := h.nd
  sc := h.sc
  calm := fun q => by cases q
  tk := takes_never
  hu := h.hu
  rmc := fun q => by cases q
  xa := fun _ b c z => by
    obtain ⟨rfl, rfl, rfl, hx⟩ := z
    exact ⟨hx, call_isE (X := X) (h.pf.exc c hx) hz hf⟩
  fn := h.fn
  kind := h.kind
  po := PassesOwn.never
  stk := h.stk
  frm := h.frm
theorem soundS : ∀ (m : Nat) {G : Gr} {C : CC} {X : Cx} {EX : WX} (h : DOk P G g k C X EX) (st : Stmt) (kp : Nat → Bool), (∀ j, kp j = true → noSto j (cS P n C m st) = true) → PS X st (tS G EX kp (evS g (cS P n C m st)))
  | 0, _, _, _, _, h, st, kp, hk => ps_nil
  | m + 1, G, C, X, EX, h, st, kp, hk => by
    have snd := fun md e => sound (P := P) (G := G) (g := g) n h.toXOk md e
    have ih := soundS m h
    have body : ∀ {b : List Stmt} {kp : Nat → Bool}, (∀ j, kp j = true → noSto j (seqT (cS P n C m) b) = true) → PSs X b (tS G EX kp (evS g (seqT (cS P n C m) b))) := fun {b kp} hk => s_body ih hk
    revert hk
    show (∀ j, kp j = true → noSto j (stepS P n C (cS0 P n m) st) = true) → PS X st (tS G EX kp (evS g (stepS P n C (cS0 P n m) st)))
    unfold stepS
    split
    · rename_i tg e pos
      exact s_asg h
    · rename_i x px op e pos
      split
      · rename_i c
        split
        · rename_i i p hi hp
          intro hk
          have hki : kp i = false := kp_not hk (by simp [noSto])
          have e2 : evS g (.aug i p (cE P n .opd C e)) = fun en => match en[i]? with
            | some (.val v) => SR.of (evE g (cE P n .opd C e) en) (kAug i p v)
            | _ => .bad := by funext en; rw [evS]; try rfl
          obtain ⟨h1, h2⟩ := augP_of (X := X) (G := G) hp
          refine PS.imp (ps_aug h.nd (by rw [h.nN]; exact ixOf_get hi) (stoK_loc h c) (snd .opd e) h1 (.inl (h.fn x))) fun D σ H z => ?_
          rw [e2] at z
          rw [← h.pf.K]
          exact t_aug hki z h2
        · exact fun _ => ps_nil
      · exact fun _ => ps_nil
    · intro _
      refine PS.imp ps_doc fun D σ H z => t_nop (by
        have e2 : evS g .nop = fun en => .nx en := by funext en; rw [evS]
        rw [e2] at z; exact z)
    · rename_i e pos _
      split
      · rename_i c
        intro _
        have e2 : evS g (.xpr (cE P n .opd C e)) = fun en => SR.of (evE g (cE P n .opd C e) en) fun _ en => .nx en := by funext en; rw [evS]
        exact PS.imp (ps_expr (snd .opd e) (sw_no c)) fun D σ H z => t_xpr (by rw [e2] at z; exact z)
      · exact fun _ => ps_nil
    · rename_i c a b pos
      intro hk
      have h1 : ∀ j, kp j = true → noSto j (seqT (cS P n C m) a) = true ∧ noSto j (seqT (cS P n C m) b) = true := fun j hj => by
        have := hk j hj
        rw [noSto, Bool.and_eq_true] at this
        exact this
      have e2 : evS g (.sif (cE P n .tst C c) (seqT (cS P n C m) a) (seqT (cS P n C m) b)) = fun en => SR.of (evT g (cE P n .tst C c) en) fun k en => match k with
        | true => evS g (seqT (cS P n C m) a) en
        | false => evS g (seqT (cS P n C m) b) en := by funext en; rw [evS]; try rfl
      exact PS.imp (ps_if (snd .tst c) (body fun j hj => (h1 j hj).1) (body fun j hj => (h1 j hj).2)) fun D σ H z => t_sif (by rw [e2] at z; exact z)
    · rename_i c b pos
      intro hk
      have e2 : evS g (.whl (cE P n .tst C c) (seqT (cS P n C m) b)) = fun en => whlL (evT g (cE P n .tst C c)) (evS g (seqT (cS P n C m) b)) g.wf en := by funext en; rw [evS]
      exact PS.imp (ps_while h.po (snd .tst c) (body fun j hj => hk j hj)) fun D σ H z => t_whl (by rw [e2] at z; exact z)
    · rename_i tg it b pos
      dsimp only
      split
      · rename_i cc
        rw [Bool.and_eq_true, Bool.and_eq_true] at cc
        obtain ⟨⟨c1, c2⟩, c3⟩ := cc
        intro hk
        have h1 : ∀ j, kp j = true → noSto j (cTg C C.sc n tg) = true ∧ noSto j (seqT (cS P n C m) b) = true := fun j hj => by
          have := hk j hj
          rw [noSto, Bool.and_eq_true] at this
          exact this
        let kp' : Nat → Bool := fun j => kp j || (rootI (cE P n (itm tg) C it) == some j)
        have hb : ∀ j, kp' j = true → noSto j (seqT (cS P n C m) b) = true := fun j hj => by
          rw [Bool.or_eq_true, beq_iff_eq] at hj
          rcases hj with hj | hj
          · exact (h1 j hj).2
          · unfold rootOk at c3
            rw [hj] at c3
            rw [Bool.and_eq_true] at c3
            exact c3.1
        have htg : ∀ j ∈ tgIx (cTg C C.sc n tg), kp' j = false := fun j hj => by
          have hn := noSto_tg hj
          show (kp j || (rootI (cE P n (itm tg) C it) == some j)) = false
          rw [Bool.or_eq_false_iff]
          refine ⟨?_, ?_⟩
          · cases z : kp j with
            | false => rfl
            | true => rw [(h1 j z).1] at hn; cases hn
          · cases zr : rootI (cE P n (itm tg) C it) with
            | none => rfl
            | some i =>
              unfold rootOk at c3
              rw [zr] at c3
              rw [Bool.and_eq_true, Bool.not_eq_true'] at c3
              have ne : i ≠ j := fun q => by
                subst q
                have := c3.2
                simp [hj] at this
              simp [ne]
        have hroot : ∀ e xy e', evI g (cE P n (itm tg) C it) e = .ok xy e' → ∀ i fs, xy.1 = .pl i fs → fs = [] ∧ kp' i = true := fun e xy e' q i fs hx => by
          obtain ⟨h1, h2⟩ := evI_root q hx
          exact ⟨h1, by show (kp i || (rootI (cE P n (itm tg) C it) == some i)) = true; rw [rootI_eq h2]; simp⟩
        have e2 : evS g (.sfor (cTg C C.sc n tg) (cE P n (itm tg) C it) (seqT (cS P n C m) b)) = fun en => SR.of (evI g (cE P n (itm tg) C it) en) fun xy en => forL (cTg C C.sc n tg) (fun e1 => sameAt en e1 xy.1) (evS g (seqT (cS P n C m) b)) xy.2 en := by funext en; rw [evS]
        refine PS.imp (ps_for h.po (h.calm c1) (pi_itm (snd (itm tg) it)) (s_tg h.nN h.nd h.sc h.calm (scope := C.sc) (fun x _ => .inl (h.fn x)) (n := n) (e := tg)) (body (kp := kp') hb) (fun x => fold_ok c2 x)) fun D σ H z => ?_
        rw [e2] at z
        rw [← h.pf.K]
        exact t_for (fun j hj => by show (kp j || _) = true; rw [hj]; rfl) htg hroot z
      · exact fun _ => ps_nil
    · rename_i e pos
      intro _
      have e2 : evS g (.ret (cE P n .ret C e)) = fun en => SR.of (evE g (cE P n .ret C e) en) kRet := by funext en; rw [evS]
      exact PS.imp (ps_ret (snd .ret e)) fun D σ H z => t_ret (by rw [e2] at z; exact z)
    · intro _
      have e2 : evS g .retN = fun en => .rt (.val .non) en := by funext en; rw [evS]
      exact PS.imp ps_retN fun D σ H z => t_retN (by rw [e2] at z; exact z)
    · intro _
      exact PS.imp ps_pass fun D σ H z => t_nop (by
        have e2 : evS g .nop = fun en => .nx en := by funext en; rw [evS]
        rw [e2] at z; exact z)
    · intro _
      exact PS.imp ps_break fun D σ H z => t_brk (by
        have e2 : evS g .brk = fun en => .bk en := by funext en; rw [evS]
        rw [e2] at z; exact z)
    · intro _
      exact PS.imp ps_continue fun D σ H z => t_cnt (by
        have e2 : evS g .cnt = fun en => .ct en := by funext en; rw [evS]
        rw [e2] at z; exact z)
    · rename_i x px p1 p2
      unfold cRse
      split
      · rename_i c
        rw [Bool.and_eq_true] at c
        obtain ⟨c1, c2⟩ := c
        split
        · rename_i cc hcc
          split
          · rename_i hx
            intro _
            obtain ⟨k1, k2⟩ := isGl_ok h.toXOk c2
            obtain ⟨q1, q2, q3, q4⟩ := h.pf.rse cc (by simpa using hx)
            refine PS.imp (ps_raise (h.calm c1) h.tk (pmk_none PySem.F.excBase_ValueError q1 (h.pf.cl x cc hcc) q2 (raises_own q3 q4) k1 k2)) fun D σ H z => ?_
            exact t_rse z
          · exact fun _ => ps_nil
        · exact fun _ => ps_nil
      · exact fun _ => ps_nil
    · rename_i b x px s0 su hp pos
      split
      · rename_i c hc
        split
        · rename_i c1
          obtain ⟨k1, k2, k3, k4, k5⟩ := hnd_ok h.toXOk hc
          intro hk
          have h1 : ∀ j, kp j = true → noSto j (seqT (cS P n C m) b) = true ∧ noSto j (seqT (cS P n { C with calm := false, xn := [] } m) (s0 :: su)) = true := fun j hj => by
            have := hk j hj
            rw [noSto, Bool.and_eq_true, Bool.and_eq_true] at this
            exact ⟨this.1.2, this.2⟩
          refine PS.imp (ps_try_only (c := codeV G c) (tb := fun W => tS G W kp (evS g (seqT (cS P n C m) b))) (ts := fun a cls d => tS (G.wx (xaAt G a cls d g)) EXf kp (evS g (seqT (cS P n { C with calm := false, xn := [] } m) (s0 :: su)))) h.stk h.frm k1 h.tk
            (fun W pn xe tk po => s_body (soundS m (h.tr c1 tk po)) fun j hj => (h1 j hj).1)
            (fun a oe cls d pn hz hf => s_body (soundS m (h.suite hz hf)) fun j hj => (h1 j hj).2)) fun D σ H z => ?_
          rw [← h.pf.K]
          exact t_tri0 (fun c' hx => by rw [h.pf.K]; exact h.pf.exm c' c hx k2) z
        · exact fun _ => ps_nil
      · exact fun _ => ps_nil
    · rename_i b x px y s0 su hp pos
      split
      · rename_i c i hc hi
        split
        · rename_i c1
          rw [Bool.and_eq_true, beq_iff_eq] at c1
          obtain ⟨k1, k2, k3, k4, k5⟩ := hnd_ok h.toXOk hc
          intro hk
          have h1 : ∀ j, kp j = true → [i].contains j = false ∧ noSto j (seqT (cS P n C m) b) = true ∧ noSto j (seqT (cS P n { C with calm := false, xn := [y] } m) (s0 :: su)) = true := fun j hj => by
            have := hk j hj
            rw [noSto, Bool.and_eq_true, Bool.and_eq_true, Bool.not_eq_true'] at this
            exact ⟨this.1.1, this.1.2, this.2⟩
          have hki : kp i = false := by
            cases z : kp i with
            | false => rfl
            | true => have := (h1 i z).1; simp at this
          refine PS.imp (ps_try_as (i := i) (c := codeV G c) (tb := fun W => tS G W kp (evS g (seqT (cS P n C m) b))) (ts := fun a cls d => tS (G.wx (xaAt G a cls d g)) EXf kp (evS g (seqT (cS P n { C with calm := false, xn := [y] } m) (s0 :: su)))) h.stk h.frm h.nd (by rw [h.nN]; exact ixOf_get hi) (by unfold Env.kindOf; rw [h.sc]; exact c1.2) k1 h.tk
            (fun W pn xe tk po => s_body (soundS m (h.tr c1.1 tk po)) fun j hj => (h1 j hj).2.1)
            (fun a oe cls d pn hz hf => s_body (soundS m (h.suite hz hf)) fun j hj => (h1 j hj).2.2)) fun D σ H z => ?_
          rw [← h.pf.K]
          exact t_tri1 hki (fun c' hx => by rw [h.pf.K]; exact h.pf.exm c' c hx k2) z
        · exact fun _ => ps_nil
      · exact fun _ => ps_nil
    · exact fun _ => ps_nil
end
end RF
set_option maxHeartbeats 1000000
namespace RF
open PySem PySem.Spec PyProof.Rows L2 Evl
structure DefI where
  x : Str
  qual : Str
  params : Arguments
  body : List Stmt
  scope : Scope
  ps : List Str
  N : List Str
def DefI.cc (d : DefI) : CC := ⟨d.N, d.scope, true, [], d.body.filterMap ownNm⟩
def DefI.fd (P : PTab) (n : Nat) (d : DefI) : FD := ⟨d.ps.length, d.N.length, seqT (cS P n d.cc n) d.body⟩
structure KF (P : PTab) (t : Tab) (n : Nat) (D : List DefI) (G : Gr) (mg : Str → Option Value) (fa : Nat → Addr) : Prop where
  att : AttF G
  gatt : ∀ c f, t.at c f = true → G.att c f = true
  def_ : ∀ i d, D[i]? = some d → ∃ fd, FunD G.K d.x d.qual d.params d.body d.scope [] [] (fa i) fd ∧ Binds G.K fd d.ps [] ∧ FnScope d.N d.ps d.scope
  fds : ∀ i : Nat, t.fds[i]? = (D[i]?).map (DefI.fd P n)
  fn : ∀ x i, P.fn.lookup x = some i → mg x = some (.ref (fa i)) ∧ i < D.length
  cl : ∀ x c, P.cl.lookup x = some c → mg x = some (.ref (G.cl c))
  mkr : ∀ c ∈ P.mks, ∃ i, t.ini.lookup c = some i ∧ i < D.length ∧ Mk G.K (G.cl c) (fa i)
  met : ∀ nm m, P.mn.lookup nm = some m → ∀ c i, (t.gl (fun _ _ => .bad)).met c m = some i → i < D.length ∧ Cls G.K (G.cl c) ∧ Meth G.K (G.cl c) nm (fa i) ∧ ∀ f, G.att c f = true → G.an f ≠ nm
  an : ∀ nm f, P.an.lookup nm = some f → G.an f = nm
  cs : ∀ c ∈ P.cs, ClsF G P.cs c
  gl : ∀ x p, P.gl.lookup x = some p → ∃ v u, mg x = some u ∧ RelV v u ∧ ∀ I, Rep G I v p
  nb : ∀ x ∈ bltN, mg x = none
  exc : ∀ c, (t.gl (fun _ _ => .bad)).isx c = true → ExcC G.K (G.cl c)
  kit : ∀ c d, (t.gl (fun _ _ => .bad)).isx c = true → d ∈ P.xd → PySem.W.kitOne G.K (.ref (G.cl c)) (codeV G d) = some ((t.gl (fun _ _ => .bad)).sub c d)
  exm : ∀ c d, (t.gl (fun _ _ => .bad)).isx c = true → d ∈ P.xd → PySem.W.exmOne G.K (.ref (G.cl c)) (codeV G d) = some ((t.gl (fun _ _ => .bad)).sub c d)
  eqn : ∀ m, P.mn.lookup ("__eq__" : Str) = some m → ∀ c i, (t.gl (fun _ _ => .bad)).met c m = some i → PySem.W.findIn G.K (.ref (G.cl c)) "__ne__" = some (some (.builtin "object.__ne__")) ∧ PySem.W.mroIn G.K (G.cl c) (.type "object") = some true
  rse : ∀ c ∈ P.xs, PySem.W.excIn G.K (G.cl c) [.type "ValueError", .type "Exception", .type "BaseException", .type "object"] "ValueError.__new__" = true ∧ PySem.W.keepIn G.K (.ref (G.cl c)) = true ∧
    PySem.W.subIn G.K (.ref (G.cl c)) (.type "BaseException") = some true ∧ PySem.W.typeIn G.K (.ref (G.cl c)) = some (.type "type")
section
variable {P : PTab} {t : Tab} {n : Nat} {D : List DefI} {G : Gr} {mg : Str → Option Value} {fa : Nat → Addr} {prog : Program} {w : World} {base : Heap}
def AllOk (P : PTab) (t : Tab) (D : List DefI) (G : Gr) (mg : Str → Option Value) (fa : Nat → Addr) (prog : Program) (w : World) (base : Heap) (k : Nat) (sem : Nat → List Slot → RF.CR) : Prop :=
  ∀ i d, D[i]? = some d → ∃ fd, FnOk prog w G.K mg base (CX prog w) k (fa i) fd d.ps (spEv G d.ps.length (sem i)) ∧ Binds G.K fd d.ps [] ∧ PySem.W.keepIn G.K (.ref (fa i)) = true ∧ (∀ ss, sem i ss ≠ .bad → ss.length = d.ps.length) ∧ ∃ oc od osl, G.K.lookup (fa i) = some ⟨oc, od, .func fd, osl⟩
theorem pf_of {X : Cx} {k : Nat} {sem : Nat → List Slot → RF.CR} (kf : KF P t n D G mg fa) (hK : X.K = G.K) (hw : X.w = G.w) (hm : X.mg = mg) : PF P G (t.gl sem) k X where
  K := hK.symm
  w := hw.symm
  att := kf.att
  gatt := kf.gatt
  cl := fun x c h => by rw [hm]; exact kf.cl x c h
  an := kf.an
  cs := kf.cs
  gl := fun x p h => by rw [hm]; exact kf.gl x p h
  nb := fun x h => by rw [hm]; exact kf.nb x h
  exc := fun c h => by rw [hK]; exact kf.exc c h
  kit := fun c d h k => by rw [hK]; exact kf.kit c d h k
  exm := fun c d h k => by rw [hK]; exact kf.exm c d h k
  eqn := fun m h c i hi => by rw [hK]; exact kf.eqn m h c i hi
  rse := fun c h => by rw [hK]; exact kf.rse c h
theorem pc_of {X : Cx} {k : Nat} {sem : Nat → List Slot → RF.CR} (kf : KF P t n D G mg fa) (ok : AllOk P t D G mg fa X.prog X.w X.base k sem) (hK : X.K = G.K) (hm : X.mg = mg) : PC P G (t.gl sem) k X := by
  have fnf : ∀ i, i < D.length → FnF X G sem k i (fa i) := fun i hi => by
    obtain ⟨fd, h1, h2, h3, h4, _⟩ := ok i D[i] (List.getElem?_eq_getElem hi)
    refine ⟨⟨fd, D[i].ps, D[i].ps.length, ?_, ?_, h4⟩, ?_⟩
    · rw [hK, hm]; exact h1
    · rw [hK]; exact h2
    · rw [hK]; exact h3
  refine ⟨fun x i h => ?_, fun c h => ?_, fun nm m h c i hi => ?_⟩
  · obtain ⟨h1, h2⟩ := kf.fn x i h
    exact ⟨fa i, by rw [hm]; exact h1, fnf i h2⟩
  · obtain ⟨i, h1, h2, h3⟩ := kf.mkr c h
    exact ⟨i, fa i, h1, by rw [hK]; exact h3, fnf i h2⟩
  · obtain ⟨h1, h2, h3, h4⟩ := kf.met nm m h c i hi
    exact ⟨fa i, by rw [hK]; exact h2, by rw [hK]; exact h3, fnf i h1, h4⟩
theorem env_dead {I H : Hp} : ∀ (m : Nat), EnvR G I H (List.replicate m none) (List.replicate m .dead) []
  | 0 => .nil
  | m + 1 => .no (env_dead m)
theorem env_start {I H : Hp} {m : Nat} : ∀ {vs : List V} {ss : List Slot} {F : List Addr}, SReps G I H vs ss F → EnvR G I H (vs.map some ++ List.replicate m none) (ss ++ List.replicate m .dead) F
  | _, _, _, .nil => env_dead m
  | _, _, _, .cons h r => .hv h (env_start r)
theorem args_back {b : T} {I0 H0 I H : Hp} (ex : Ex I0 I) : ∀ {vs : List V} {ss : List Slot} {F0 : List Addr} {σ : L2.St} {es e : RF.Env} {F : List Addr} {i : Nat}, SReps G I0 H0 vs ss F0 → EnvR G I H σ es F → es = e.drop i → (∀ j, noSto (i + j) b = true → j < vs.length → σ[j]? = (vs.map some)[j]?) →
    ∃ Fb, SReps G I H vs (argsBack b e i ss) Fb ∧ Fb.Sublist F := by
  intro vs ss F0 σ es e F i r
  induction r generalizing σ es F i with
  | nil => intro _ _ _; exact ⟨[], .nil, by simp⟩
  | @cons v s vs ss F1 F2 hs r ih =>
    intro en he hk
    rw [argsBack]
    -- what the first name holds
    have nxt : ∀ {σ' : L2.St} {o : Option V} {es' : RF.Env} {s' : Slot} {F' : List Addr}, σ = o :: σ' → es = s' :: es' → EnvR G I H σ' es' F' → ∃ Fb, SReps G I H vs (argsBack b e (i + 1) ss) Fb ∧ Fb.Sublist F' := fun {σ' o es' s' F'} e1 e2 en' => by
      refine ih (i := i + 1) en' ?_ fun j hj hl => ?_
      · rw [e2] at he
        have := congrArg List.tail he
        rw [List.tail_cons, List.tail_drop] at this
        exact this
      · have := hk (j + 1) (by rw [show i + (j + 1) = i + 1 + j by omega]; exact hj) (by simp; omega)
        rw [e1] at this
        simpa using this
    have old : SRep G I H v (oldS s) [] := by
      cases hs with
      | val h => exact .val (h.mono ex)
      | _ => exact .dead
    cases en with
    | nil =>
      -- no names are left: the value is not looked at
      have hd : e.getD i .dead = .dead := by
        have : e.drop i = [] := he.symm
        rw [List.drop_eq_nil_iff] at this
        simp [List.getD, List.getElem?_eq_none this]
      obtain ⟨Fb, h1, h2⟩ := ih (σ := []) (es := []) (F := []) (i := i + 1) .nil (by
        have := congrArg List.tail he
        rw [List.tail_drop] at this
        exact this) fun j hj hl => by
          have := hk (j + 1) (by rw [show i + (j + 1) = i + 1 + j by omega]; exact hj) (by simp; omega)
          simpa using this
      refine ⟨[] ++ Fb, .cons ?_ h1, h2⟩
      split
      · rw [hd]; exact .dead
      · exact old
    | @no o σ' es' F' r' =>
      obtain ⟨Fb, h1, h2⟩ := nxt rfl rfl r'
      have hd : e.getD i .dead = .dead := by
        have z : (e.drop i)[0]? = some .dead := by rw [← he]; rfl
        rw [List.getElem?_drop] at z
        simp only [Nat.add_zero] at z
        simp [List.getD, z]
      refine ⟨[] ++ Fb, .cons ?_ h1, by simpa using h2⟩
      split
      · rw [hd]; exact .dead
      · exact old
    | @hv v' s' σ' es' F1' F2' q r' =>
      obtain ⟨Fb, h1, h2⟩ := nxt rfl rfl r'
      have hd : e.getD i .dead = s' := by
        have z : (e.drop i)[0]? = some s' := by rw [← he]; rfl
        rw [List.getElem?_drop] at z
        simp only [Nat.add_zero] at z
        simp [List.getD, z]
      split
      · rename_i hn
        have hv : v' = v := by
          have := hk 0 (by simpa using hn) (by simp)
          simpa using this
        subst hv
        rw [hd]
        exact ⟨F1' ++ Fb, .cons q h1, List.Sublist.append (List.Sublist.refl _) h2⟩
      · exact ⟨[] ++ Fb, .cons old h1, by simpa using h2.trans (List.sublist_append_right _ _)⟩
theorem lkF {K : PySem.W.Frag} {x qual : Str} {params : Arguments} {body : List Stmt} {scope : Scope} {f : Addr} {fd : FuncData} (F : FunD K x qual params body scope [] [] f fd) : ∃ oc od osl, K.lookup f = some ⟨oc, od, .func fd, osl⟩ := by
  obtain ⟨oc, od, dV, kV, doc, pm, an, cdv, ct, osl, _, h, _⟩ := F.ex
  exact ⟨oc, od, osl, h⟩
theorem all_ok (hw : w = G.w) (kf : KF P t n D G mg fa) : ∀ m : Nat, AllOk P t D G mg fa prog w base (2 * m) (sem t m)
  | 0 => fun i d hd => by
    obtain ⟨fd, h1, h2, h3⟩ := kf.def_ i d hd
    refine ⟨fd, ⟨fun vs H Q E h => h.1, fun A outer s H args us vs Q E hr e0 hb r h => ?_⟩, h2, h1.kp, fun ss h => absurd rfl h, lkF h1⟩
    obtain ⟨_, I, F, ss, _, _, _, _, q⟩ := h
    exact q.elim
  | m + 1 => fun i d hd => by
    have ih := all_ok hw kf m
    obtain ⟨fd, h1, h2, S⟩ := kf.def_ i d hd
    have hfd := kf.fds i
    rw [hd] at hfd
    have hsem : ∀ ss, sem t (m + 1) i ss = runF (t.gl (sem t m)) (d.fd P n) ss := fun ss => by
      rw [sem, hfd]; rfl
    have hlen : ∀ ss, sem t (m + 1) i ss ≠ .bad → ss.length = d.ps.length := fun ss hne => by
      rw [hsem] at hne
      unfold runF at hne
      split at hne
      · assumption
      · exact absurd rfl hne
    refine ⟨fd, ?_, h2, h1.kp, hlen, lkF h1⟩
    refine FunD.ok (k := 2 * m + 1) (CX := CX prog w) h1 S (fun vs H Q E h => h.1) fun cdv A outer s H vs Q E hr hsp => ?_
    obtain ⟨hl, I, F, ss, ex, rs, nd, fr, q⟩ := hsp
    rw [hsem] at q
    let X := cxOf (CX prog w) prog w G.K mg base d.N d.qual d.scope (fa i) cdv A outer s H E
    let EX : WX := fun cls dd _ H' => E cls dd H'
    have tk : Takes X EX := takes_of (X := X) (E := E) rfl rfl rfl rfl
    have ok : XOk P G (t.gl (sem t m)) (2 * m) d.cc X EX := ⟨pf_of kf rfl hw rfl, fun _ => pc_of kf ih rfl rfl, rfl, S.nd, rfl, fun _ => rfl, tk, by have := hr.un; show (A.deeper (envOfC d.qual d.scope s.heap.objs.size (fa i) cdv)).units + 70 < cLine; omega, fun _ => hr, fun q => nomatch q⟩
    have dok : DOk P G (t.gl (sem t m)) (2 * m) d.cc X EX := ⟨ok, fun _ => rfl, S.kind, passes_of (X := X) rfl, rfl, rfl⟩
    let kp : Nat → Bool := fun j => noSto j (seqT (cS P n d.cc n) d.body)
    refine ⟨_, s_body (kp := kp) (soundS n dok) (fun j hj => hj), I, ss ++ List.replicate (d.N.length - d.ps.length) .dead, F, ?_, ?_⟩
    · refine ⟨ex, ?_, nd, fr⟩
      unfold L2.start
      rw [hl]
      exact env_start rs
    · have hss : ss.length = (d.fd P n).np := by rw [← rs.length]; exact hl
      unfold runF at q
      rw [if_pos hss] at q
      -- the arguments behind the body
      have back : ∀ {e' : RF.Env} {σ' : L2.St} {I' H' : Hp} {F' : List Addr}, Ex I I' → W G I' H' σ' e' F' → Kept kp (L2.start d.N vs) σ' → ∃ Fb, SReps G I' H' vs (argsBack (seqT (cS P n d.cc n) d.body) e' 0 ss) Fb ∧ Fb.Sublist F' := fun {e' σ' I' H' F'} exI w' k =>
        args_back (i := 0) exI rs w'.env (by simp) fun j hj hjl => by
          rw [Nat.zero_add] at hj
          rw [k.2 j hj]
          unfold L2.start
          rw [List.getElem?_append_left (by simpa using hjl)]
      cases z : evS (t.gl (sem t m)) (seqT (cS P n d.cc n) d.body) (ss ++ List.replicate (d.N.length - d.ps.length) .dead) with
      | nx e' =>
        rw [show evS (t.gl (sem t m)) (d.fd P n).body (ss ++ List.replicate ((d.fd P n).ns - (d.fd P n).np) .dead) = .nx e' from z] at q
        intro σ' I' H' F' st w' k
        obtain ⟨Fb, b1, b2⟩ := back st.ex w' k
        exact q .non I' H' [] Fb (st.weak (fun z => z) fun a ha => b2.subset (by simpa using ha)) w'.ex (.val .non) b1 (w'.nd.sublist b2) fun a ha => w'.fr a (b2.subset (by simpa using ha))
      | rt s' e' =>
        rw [show evS (t.gl (sem t m)) (d.fd P n).body (ss ++ List.replicate ((d.fd P n).ns - (d.fd P n).np) .dead) = .rt s' e' from z] at q
        intro v σ' I' H' F' Fs st w' k r nd2 fr2
        obtain ⟨Fb, b1, b2⟩ := back st.ex w' k
        have sub : (Fs ++ Fb).Sublist (Fs ++ F') := List.Sublist.append (List.Sublist.refl _) b2
        exact q v I' H' Fs Fb (st.weak (fun z => z) fun a ha => sub.subset ha) w'.ex r b1 (nd2.sublist sub) fun a ha => (List.mem_append.mp ha).elim (fr2 a) fun z => w'.fr a (b2.subset z)
      | exc x e' =>
        rw [show evS (t.gl (sem t m)) (d.fd P n).body (ss ++ List.replicate ((d.fd P n).ns - (d.fd P n).np) .dead) = .exc x e' from z] at q
        intro cls dd σ' I' H' F' st w' k xr
        obtain ⟨Fb, b1, b2⟩ := back st.ex w' k
        exact q cls dd I' H' Fb (st.weak (fun z => z) fun a ha => b2.subset ha) w'.ex b1 (w'.nd.sublist b2) (fun a ha => w'.fr a (b2.subset ha)) xr
      | bk e' =>
        rw [show evS (t.gl (sem t m)) (d.fd P n).body (ss ++ List.replicate ((d.fd P n).ns - (d.fd P n).np) .dead) = .bk e' from z] at q
        exact q.elim
      | ct e' =>
        rw [show evS (t.gl (sem t m)) (d.fd P n).body (ss ++ List.replicate ((d.fd P n).ns - (d.fd P n).np) .dead) = .ct e' from z] at q
        exact q.elim
      | bad =>
        rw [show evS (t.gl (sem t m)) (d.fd P n).body (ss ++ List.replicate ((d.fd P n).ns - (d.fd P n).np) .dead) = .bad from z] at q
        exact q.elim
theorem law_sp {m i : Nat} {a : Addr} {H : Hp} {ns : List Int} (hs : SqL G.K H a (ns.map V.int)) {bs : List Slot} (hl : sem t m i [.val (.xls (ns.map PV.int))] = .ok (.val (.bl true)) bs) : spEv G 1 (sem t m i) [.ref a] H (fun v _ => v = .bl true) (fun _ _ _ => False) := by
  have rl : ∀ ns : List Int, RepL G H (ns.map V.int) (ns.map PV.int) := fun ns => by
    induction ns with
    | nil => exact .nil
    | cons x r ih => exact .cons (.int x) ih
  refine ⟨rfl, H, [] ++ [], [.val (.xls (ns.map PV.int))], Ex.refl _, .cons (.val (.xls hs (rl ns))) .nil, by simp, fun a h => (by simp at h), ?_⟩
  rw [hl]
  intro v I' H' Fs Fb st ei r rb nd fr
  obtain ⟨_, rv⟩ := val_nil r
  cases rv
  rfl
end
end RF
set_option maxHeartbeats 1000000
namespace RF
open PySem PySem.Spec PyProof.Rows L2 Evl
abbrev AlR : Type := He.AlD × Bool
def obsR (n : Nat) (fn : List He.DefD) (ex : PySem.W.Frag → Bool) (g : Addr → Option Obj) : AlR := (He.obsD [] fn (He.frG g (He.asD g n)), ex (He.frG g (He.asD g n)))
def hookR (n : Nat) (fn : List He.DefD) (ex : PySem.W.Frag → Bool) : PySem.W.Hook where
  α := AlR
  obs := fun s => obsR n fn ex s.heap.get?
  val := fun _ => (He.valD fn, true)
  says := fun _ h => ∃ K : PySem.W.Frag, K.In h ∧ He.SaysD [] fn K ∧ ex K = true
  of := fun _ _ e => ⟨_, He.frG_in, congrArg Prod.fst e, congrArg Prod.snd e⟩
  keeps := fun _ _ _ ⟨K, hK, c⟩ k => ⟨K, PySem.W.Frag.In.keeps hK k, c⟩
theorem obsR_eq {n : Nat} {fn : List He.DefD} {ex : PySem.W.Frag → Bool} {g : Addr → Option Obj} {s : Shared} (h : ∀ a, g a = s.heap.get? a) : obsR n fn ex g = (hookR n fn ex).obs s := by
  have e : g = s.heap.get? := funext h
  rw [e]; rfl
structure DI where
  at_ : Str × Option Str
  name : Str
  qual : Str
  params : Arguments
  body : List Stmt
  scope : Scope
  ps : List Str
  N : List Str
def DI.d (d : DI) : He.DefD := ⟨d.at_, d.name, d.qual, d.params, d.body, d.scope, [], []⟩
def DI.i (d : DI) : DefI := ⟨d.name, d.qual, d.params, d.body, d.scope, d.ps, d.N⟩
structure Txt where
  P : PTab
  t : Tab
  n : Nat
  D : List DI
  cn : List Str
  an : List Str
def weird (n : Nat) : Str := ⟨#[0, n]⟩
def anT (an : List Str) (n : Nat) : Str := match an[n]? with
  | some s => s
  | none => weird n
def clT (cn : List Str) (K : PySem.W.Frag) (c : Nat) : Addr := match cn[c]? with
  | some x => He.ga K x
  | none => 0
theorem an_inj {an : List Str} (h : (an.all fun s => !(s.cps[0]? == some 0)) = true) (nd : an.Nodup) (n m : Nat) (e : anT an n = anT an m) : n = m := by
  have w0 : ∀ k : Nat, (weird k).cps[0]? = some 0 := fun k => rfl
  have ne : ∀ (s : Str), s ∈ an → ∀ k, s ≠ weird k := fun s hs k q => by
    have := List.all_eq_true.mp h s hs
    rw [q, w0] at this
    simp at this
  unfold anT at e
  cases z1 : an[n]? with
  | none =>
    cases z2 : an[m]? with
    | none =>
      rw [z1, z2] at e
      have e2 : weird n = weird m := e
      unfold weird at e2
      injection e2 with e2
      have := congrArg (fun a : Array Nat => a[1]?) e2
      simpa using this
    | some s =>
      rw [z1, z2] at e
      exact absurd e.symm (ne s (List.mem_of_getElem? z2) n)
  | some s =>
    cases z2 : an[m]? with
    | none =>
      rw [z1, z2] at e
      exact absurd e (ne s (List.mem_of_getElem? z1) m)
    | some s' =>
      rw [z1, z2] at e
      have e2 : s = s' := e
      subst e2
      obtain ⟨h1, e1⟩ := List.getElem?_eq_some_iff.mp z1
      obtain ⟨h2, e2⟩ := List.getElem?_eq_some_iff.mp z2
      exact (List.getElem_inj nd).mp (e1.trans e2.symm)
def Txt.faK (X : Txt) (K : PySem.W.Frag) (i : Nat) : Addr := match X.D[i]? with
  | some d => He.fAd K d.at_
  | none => 0
def tyAll : List Ty := [.int, .bool, .str, .tuple, .list, .dict]
def clsB (X : Txt) (K : PySem.W.Frag) (c : Nat) : Bool := match X.cn[c]? with
  | some x => (He.Fa.cls x).ok K && (He.eqO (PySem.W.findIn K (.ref (He.ga K x)) "__class__") (some (some (.builtin "object.__class__"))) && (He.eqO (PySem.W.specialIn K (.builtin "object.__class__") "__get__") (some (some (.builtin "getset_descriptor.__get__"))) &&
      (decide (PySem.W.takesIn K (.builtin "object.__class__") = some true) && (decide (PySem.W.mroIn K (He.ga K x) (.type "object") = some true) &&
      ((tyAll.all fun t => decide (PySem.W.kitOne K (.ref (He.ga K x)) (.type (tyS t)) = some false)) && ((X.P.cs.all fun d => decide (PySem.W.kitOne K (.ref (clT X.cn K d)) (.ref (He.ga K x)) = some (decide (d = c)))) &&
      (["NoneType", "bool", "int", "str", "tuple", "list", "dict"].all fun n => decide (PySem.W.kitOne K (.type n) (.ref (He.ga K x)) = some false))))))))
  | none => false
def dvP : PV → Option He.Dv
  | .non => some .non
  | .bl b => some (.bl b)
  | .int i => some (.int i)
  | .str x => some (.str x)
  | _ => none
def dvPs : List PV → Option (List He.Dv)
  | [] => some []
  | x :: r => match dvP x, dvPs r with
    | some v, some vs => some (v :: vs)
    | _, _ => none
def glB (K : PySem.W.Frag) (x : Str) : PV → Bool
  | .int i => (He.Fa.int x i).ok K
  | .str z => (He.Fa.str x z).ok K
  | .tup ps => match dvPs ps with
    | some vs => (He.Fa.glo x).ok K && He.tupB K x vs
    | none => false
  | _ => false
def codeB (X : Txt) (K : PySem.W.Frag) (d : Nat) : Value := if d = 1000 then .type "ValueError" else .ref (clT X.cn K d)
def xcOne (K : PySem.W.Frag) (D : Addr) : Bool :=
  He.eqO (PySem.W.findIn K (.ref D) "__getattribute__") (some (some (.builtin "BaseException.__getattribute__"))) && (He.eqO (PySem.W.findIn K (.ref D) "__getattr__") (some none) && (decide (PySem.W.subIn K (.ref D) (.type "BaseException") = some true) &&
    (PySem.W.hasDictIn K D && (He.eqO (PySem.W.findIn K (.ref D) "__class__") (some (some (.builtin "object.__class__"))) && (He.eqO (PySem.W.specialIn K (.builtin "object.__class__") "__get__") (some (some (.builtin "getset_descriptor.__get__"))) &&
    (decide (PySem.W.takesIn K (.builtin "object.__class__") = some true) && decide (PySem.W.mroIn K D (.type "object") = some true)))))))
def tyB : Option Value → Bool
  | some (.type s) => s == "type"
  | _ => false
theorem tyB_ok {o : Option Value} (h : tyB o = true) : o = some (.type "type") := by
  unfold tyB at h
  split at h
  · simp only [beq_iff_eq] at h
    subst h
    rfl
  · exact absurd h (by simp)
def rsOne (K : PySem.W.Frag) (D : Addr) : Bool :=
  PySem.W.excIn K D [.type "ValueError", .type "Exception", .type "BaseException", .type "object"] "ValueError.__new__" && (PySem.W.keepIn K (.ref D) && (decide (PySem.W.subIn K (.ref D) (.type "BaseException") = some true) && tyB (PySem.W.typeIn K (.ref D))))
def xcB (X : Txt) (K : PySem.W.Frag) : Bool :=
  (X.t.sup.all fun q => xcOne K (clT X.cn K q.1) && X.P.xd.all fun d => decide (PySem.W.kitOne K (.ref (clT X.cn K q.1)) (codeB X K d) = some (q.2.contains d)) && decide (PySem.W.exmOne K (.ref (clT X.cn K q.1)) (codeB X K d) = some (q.2.contains d))) &&
    X.P.xs.all fun c => rsOne K (clT X.cn K c)
def exB0 (X : Txt) (K : PySem.W.Frag) : Bool :=
  (X.P.fn.all fun q => (He.Fa.glo q.1).ok K) && ((X.P.cl.all fun q => (He.Fa.glo q.1).ok K) && ((X.P.mks.all fun c => match X.cn[c]? with
    | some x => (He.Fa.mkr x).ok K
    | none => false) && ((X.t.met.all fun q => match X.cn[q.1]? with
    | some x => (He.Fa.cls x).ok K && X.P.mn.all fun r => (match q.2.lookup r.2 with
      | some i => (He.Fa.meth x r.1).ok K
      | none => true)
    | none => false) && ((X.t.att.all fun q => match X.cn[q.1]? with
    | some x => (He.Fa.cls x).ok K && q.2.all fun f => (He.Fa.noat x (anT X.an f)).ok K
    | none => false) && ((X.P.cs.all (clsB X K)) && ((X.P.gl.all fun q => glB K q.1 q.2) && (bltN.all fun x => (He.Fa.free x).ok K)))))))
def eqB (X : Txt) (K : PySem.W.Frag) : Bool := match X.P.mn.lookup ("__eq__" : Str) with
  | some m => X.t.met.all fun q => match q.2.lookup m with
    | some _ => He.eqO (PySem.W.findIn K (.ref (clT X.cn K q.1)) "__ne__") (some (some (.builtin "object.__ne__"))) && decide (PySem.W.mroIn K (clT X.cn K q.1) (.type "object") = some true)
    | none => true
  | none => true
def exB (X : Txt) (K : PySem.W.Frag) : Bool := exB0 X K && (xcB X K && eqB X K)
def stB (X : Txt) : Bool :=
  (X.an.all fun s => !(s.cps[0]? == some 0)) && (decide X.an.Nodup && ((X.P.fn.all fun q => match X.D[q.2]? with
    | some d => decide (d.at_ = (q.1, none))
    | none => false) && ((X.P.cl.all fun q => decide (X.cn[q.2]? = some q.1)) && ((X.P.mks.all fun c => match X.cn[c]?, X.t.ini.lookup c with
    | some x, some i => (match X.D[i]? with
      | some d => decide (d.at_ = ((x, some ("__init__" : Str)) : Str × Option Str))
      | none => false)
    | _, _ => false) && ((X.t.met.all fun q => match X.cn[q.1]? with
    | some x => X.P.mn.all fun r => (match q.2.lookup r.2 with
      | some i => (match X.D[i]? with
        | some d => decide (d.at_ = (x, some r.1)) && (match X.t.att.lookup q.1 with
          | some fs => fs.all fun f => !(anT X.an f == r.1)
          | none => true)
        | none => false)
      | none => true)
    | none => false) && ((X.P.an.all fun q => decide (X.an[q.2]? = some q.1)) && (decide (X.t.fds.length = X.D.length))))))))
def scB (N P : List Str) (sc : Scope) : Bool :=
  (match sc.kind with | .function => true | _ => false) && (!sc.isCoroutine && (!sc.isGenerator && (decide N.Nodup && (decide (N.take P.length = P) && ((P.all fun x => match sc.names.lookup x with
    | some .local => true
    | some .cell => true
    | _ => false) && (sc.names.all fun y => match y.2 with
    | .free => false
    | _ => true))))))
theorem scB_ok {N P : List Str} {sc : Scope} (h : scB N P sc = true) : FnScope N P sc := by
  unfold scB at h
  simp only [Bool.and_eq_true, Bool.not_eq_true', decide_eq_true_eq] at h
  obtain ⟨h1, h2, h3, h4, h5, h6, h7⟩ := h
  refine ⟨?_, h2, h3, h4, h5, fun x hx => ?_, fun y hy q => ?_⟩
  · split at h1
    · assumption
    · cases h1
  · have := List.all_eq_true.mp h6 x hx
    split at this
    · rename_i e; exact .inl e
    · rename_i e; exact .inr e
    · cases this
  · have := List.all_eq_true.mp h7 y hy
    rw [q] at this
    cases this
section
variable {X : Txt} {K : PySem.W.Frag} {h : Heap} {mg : Str → Option Value}
def Txt.G (X : Txt) (hs : stB X = true) (K : PySem.W.Frag) (w : World) : Gr where
  K := K
  w := w
  cl := clT X.cn K
  an := anT X.an
  att := X.t.at
  inj := by
    unfold stB at hs
    simp only [Bool.and_eq_true] at hs
    exact an_inj hs.1 (of_decide_eq_true hs.2.1)
theorem lk_mem {α β : Type} [BEq α] [LawfulBEq α] : ∀ {l : List (α × β)} {a : α} {b : β}, l.lookup a = some b → (a, b) ∈ l
  | [], _, _, h => by cases h
  | (x, y) :: r, a, b, h => by
    rw [List.lookup_cons] at h
    split at h
    · rename_i e
      cases h
      rw [eq_of_beq e]
      exact List.mem_cons_self
    · exact List.mem_cons_of_mem _ (lk_mem h)
theorem cl_at {c : Nat} {x : Str} (h : X.cn[c]? = some x) : clT X.cn K c = He.ga K x := by unfold clT; rw [h]
theorem fa_at {i : Nat} {d : DI} (h : X.D[i]? = some d) : X.faK K i = He.fAd K d.at_ := by unfold Txt.faK; rw [h]
theorem rel_dv {G : Gr} {I : Hp} : ∀ {ps : List PV} {vs : List He.Dv}, dvPs ps = some vs → RepL G I (vs.map (He.Dv.v K)) ps
  | [], vs, h => by cases h; exact .nil
  | p :: ps, vs, h => by
    rw [dvPs] at h
    cases z1 : dvP p with
    | none => rw [z1] at h; cases h
    | some v =>
      cases z2 : dvPs ps with
      | none => rw [z1, z2] at h; cases h
      | some ws =>
        rw [z1, z2] at h
        cases h
        refine .cons ?_ (rel_dv z2)
        cases p with
        | non => cases z1; exact .non
        | bl b => cases z1; exact .bl b
        | int b => cases z1; exact .int b
        | str b => cases z1; exact .str b
        | _ => cases z1
theorem kf_of {w : World} (hs : stB X = true) (he : exB X K = true) (KX : K.In h) (GX : h.Ns mainGlobals mg)
    (hdef : ∀ (i : Nat) (d : DI), X.D[i]? = some d → ∃ fd, FunD K d.name d.qual d.params d.body d.scope [] [] (He.fAd K d.at_) fd)
    (hbind : ∀ (i : Nat) (d : DI), X.D[i]? = some d → ∀ (kV doc pm : Value) (an : Option Addr) (cdv ct : Value) (us : List Value), us.length = d.ps.length → bindArgs (PySem.W.fnOf d.name d.qual d.params d.body d.scope .none kV doc pm an cdv ct) ⟨us, []⟩ = pure (d.ps.zip us))
    (hsc : ∀ (i : Nat) (d : DI), X.D[i]? = some d → scB d.N d.ps d.scope = true)
    (hfd : ∀ i : Nat, X.t.fds[i]? = (X.D[i]?).map fun d => d.i.fd X.P X.n) : KF X.P X.t X.n (X.D.map DI.i) (X.G hs K w) mg (X.faK K) := by
  have hs0 := hs
  unfold stB at hs0
  simp only [Bool.and_eq_true] at hs0
  obtain ⟨s1, s2, s3, s4, s5, s6, s7, s8⟩ := hs0
  unfold exB at he
  rw [Bool.and_eq_true] at he
  obtain ⟨he, hxc⟩ := he
  rw [Bool.and_eq_true] at hxc
  obtain ⟨hxc, heq⟩ := hxc
  unfold xcB at hxc
  rw [Bool.and_eq_true] at hxc
  obtain ⟨xc1, xc2⟩ := hxc
  unfold exB0 at he
  simp only [Bool.and_eq_true] at he
  obtain ⟨e1, e2, e3, e4, e5, e6, e7, e8⟩ := he
  have len : (X.D.map DI.i).length = X.D.length := List.length_map _
  have attL : ∀ c f, X.t.at c f = true → ∃ fs x, X.t.att.lookup c = some fs ∧ fs.contains f = true ∧ X.cn[c]? = some x ∧ Cls K (He.ga K x) ∧ NoAttr K (He.ga K x) (anT X.an f) := fun c f hf => by
    unfold Tab.at at hf
    cases z : X.t.att.lookup c with
    | none => rw [z] at hf; cases hf
    | some fs =>
      rw [z] at hf
      have := List.all_eq_true.mp e5 (c, fs) (lk_mem z)
      dsimp only at this
      cases zc : X.cn[c]? with
      | none => rw [zc] at this; cases this
      | some x =>
        rw [zc] at this
        simp only [Bool.and_eq_true] at this
        have hm : f ∈ fs := by simpa using hf
        exact ⟨fs, x, rfl, hf, rfl, He.cls_ok this.1, He.noat_ok (List.all_eq_true.mp this.2 f hm)⟩
  refine ⟨fun c f hf => ?_, fun c f hf => hf, fun i d hd => ?_, fun i => ?_, fun x i hx => ?_, fun x c hx => ?_, fun c hc => ?_, fun nm m hm c i hi => ?_, fun nm f hf => ?_, fun c hc => ?_, fun x p hp => ?_, fun x hx => ?_, fun c hc => ?_, fun c d hc hd => ?_, fun c d hc hd => ?_, fun m hm c i hi => ?_, fun c hc => ?_⟩
  · obtain ⟨fs, x, _, _, zc, h1, h2⟩ := attL c f hf
    show Cls K (clT X.cn K c) ∧ NoAttr K (clT X.cn K c) (anT X.an f)
    rw [cl_at zc]
    exact ⟨h1, h2⟩
  · rw [List.getElem?_map] at hd
    cases z : X.D[i]? with
    | none => rw [z] at hd; cases hd
    | some d' =>
      rw [z] at hd
      cases hd
      obtain ⟨fd, F⟩ := hdef i d' z
      refine ⟨fd, ?_, FunD.bindsN F (hbind i d' z), scB_ok (hsc i d' z)⟩
      rw [fa_at z]
      exact F
  · rw [hfd, List.getElem?_map]
    cases X.D[i]? <;> rfl
  · have h1 := List.all_eq_true.mp e1 (x, i) (lk_mem hx)
    have h2 := List.all_eq_true.mp s3 (x, i) (lk_mem hx)
    dsimp only at h1 h2
    cases z : X.D[i]? with
    | none => rw [z] at h2; cases h2
    | some d =>
      rw [z] at h2
      have h3 := of_decide_eq_true h2
      refine ⟨?_, by rw [len]; exact (List.getElem?_eq_some_iff.mp z).1⟩
      rw [fa_at z, h3]
      exact He.glo_ok KX GX h1
  · have h1 := List.all_eq_true.mp e2 (x, c) (lk_mem hx)
    have h2 := of_decide_eq_true (List.all_eq_true.mp s4 (x, c) (lk_mem hx))
    show mg x = some (.ref (clT X.cn K c))
    rw [cl_at h2]
    exact He.glo_ok KX GX h1
  · have h1 := List.all_eq_true.mp e3 c hc
    have h2 := List.all_eq_true.mp s5 c hc
    try dsimp only at h1
    try dsimp only at h2
    cases zc : X.cn[c]? with
    | none => rw [zc] at h1; cases h1
    | some x =>
      rw [zc] at h1 h2
      cases zi : X.t.ini.lookup c with
      | none => rw [zi] at h2; cases h2
      | some i =>
        rw [zi] at h2
        dsimp only at h2
        cases zd : X.D[i]? with
        | none => rw [zd] at h2; cases h2
        | some d =>
          rw [zd] at h2
          have h3 := of_decide_eq_true h2
          refine ⟨i, rfl, by rw [len]; exact (List.getElem?_eq_some_iff.mp zd).1, ?_⟩
          show Mk K (clT X.cn K c) (X.faK K i)
          rw [cl_at zc, fa_at zd, h3]
          exact He.mkr_ok h1
  · -- methods
    have hi' : (match X.t.met.lookup c with
      | some ms => ms.lookup m
      | none => none) = some i := hi
    cases zm : X.t.met.lookup c with
    | none => rw [zm] at hi'; cases hi'
    | some ms =>
      rw [zm] at hi'
      have h1 := List.all_eq_true.mp e4 (c, ms) (lk_mem zm)
      have h2 := List.all_eq_true.mp s6 (c, ms) (lk_mem zm)
      dsimp only at h1 h2
      cases zc : X.cn[c]? with
      | none => rw [zc] at h1; cases h1
      | some x =>
        rw [zc] at h1 h2
        simp only [Bool.and_eq_true] at h1
        have h3 := List.all_eq_true.mp h1.2 (nm, m) (lk_mem hm)
        have h4 := List.all_eq_true.mp h2 (nm, m) (lk_mem hm)
        dsimp only at h3 h4
        rw [show ms.lookup m = some i from hi'] at h3 h4
        dsimp only at h3 h4
        cases zd : X.D[i]? with
        | none => rw [zd] at h4; cases h4
        | some d =>
          rw [zd] at h4
          simp only [Bool.and_eq_true] at h4
          have h5 := of_decide_eq_true h4.1
          refine ⟨by rw [len]; exact (List.getElem?_eq_some_iff.mp zd).1, ?_, ?_, fun f hf => ?_⟩
          · show Cls K (clT X.cn K c)
            rw [cl_at zc]
            exact He.cls_ok h1.1
          · show Meth K (clT X.cn K c) nm (X.faK K i)
            rw [cl_at zc, fa_at zd, h5]
            exact He.meth_ok h3
          · obtain ⟨fs, x', zf, hfs, _⟩ := attL c f hf
            have h6 := h4.2
            rw [zf] at h6
            have hmem : f ∈ fs := by simpa using hfs
            have h7 := List.all_eq_true.mp h6 f hmem
            have h8 : ¬ anT X.an f = nm := by simpa using h7
            exact h8
  · have h1 := of_decide_eq_true (List.all_eq_true.mp s7 (nm, f) (lk_mem hf))
    show anT X.an f = nm
    unfold anT
    rw [h1]
  · have h1 := List.all_eq_true.mp e6 c hc
    unfold clsB at h1
    cases zc : X.cn[c]? with
    | none => rw [zc] at h1; cases h1
    | some x =>
      rw [zc] at h1
      simp only [Bool.and_eq_true] at h1
      obtain ⟨a1, a2, a3, a4, a5, a6, a7, a8⟩ := h1
      have ec := cl_at (K := K) zc
      have e0 : (X.G hs K w).cl c = He.ga K x := ec
      refine ⟨?_, ?_, He.eqO_ok a3, of_decide_eq_true a4, ?_, fun t => ?_, fun d hd => ?_, fun n hn => ?_⟩
      · rw [e0]; exact He.cls_ok a1
      · rw [e0]; exact He.eqO_ok a2
      · rw [e0]; exact of_decide_eq_true a5
      · rw [e0]; exact of_decide_eq_true (List.all_eq_true.mp a6 t (by cases t <;> simp [tyAll]))
      · rw [e0]; exact of_decide_eq_true (List.all_eq_true.mp a7 d hd)
      · rw [e0]; exact of_decide_eq_true (List.all_eq_true.mp a8 n hn)
  · have h1 := List.all_eq_true.mp e7 (x, p) (lk_mem hp)
    try dsimp only at h1
    cases p with
    | int i =>
      obtain ⟨t, ht⟩ := He.int_ok KX GX h1
      exact ⟨.int i, _, ht, ⟨t, rfl⟩, fun I => .int i⟩
    | str z =>
      obtain ⟨t, ht⟩ := He.str_ok KX GX h1
      exact ⟨.str z, _, ht, ⟨t, rfl⟩, fun I => .str z⟩
    | tup ps =>
      rw [glB] at h1
      cases zd : dvPs ps with
      | none => rw [zd] at h1; cases h1
      | some vs =>
        rw [zd] at h1
        simp only [Bool.and_eq_true] at h1
        exact ⟨.ref (He.ga K x), _, He.glo_ok KX GX h1.1, rfl, fun I => .tup (He.tupB_ok h1.2 I) (rel_dv zd)⟩
    | _ => cases h1
  · exact He.free_ok KX GX (List.all_eq_true.mp e8 x hx)
  · obtain ⟨l, hl⟩ := Option.isSome_iff_exists.mp (show (X.t.sup.lookup c).isSome = true from hc)
    have h1 := List.all_eq_true.mp xc1 (c, l) (lk_mem hl)
    rw [Bool.and_eq_true] at h1
    have h2 := h1.1
    unfold xcOne at h2
    simp only [Bool.and_eq_true] at h2
    obtain ⟨a1, a2, a3, a4, a5, a6, a7, a8⟩ := h2
    exact ⟨He.eqO_ok a1, He.eqO_ok a2, of_decide_eq_true a3, a4, He.eqO_ok a5, He.eqO_ok a6, of_decide_eq_true a7, of_decide_eq_true a8⟩
  · obtain ⟨l, hl⟩ := Option.isSome_iff_exists.mp (show (X.t.sup.lookup c).isSome = true from hc)
    have h1 := List.all_eq_true.mp xc1 (c, l) (lk_mem hl)
    rw [Bool.and_eq_true] at h1
    have h2 := List.all_eq_true.mp h1.2 d hd
    rw [Bool.and_eq_true] at h2
    have h3 := of_decide_eq_true h2.1
    show PySem.W.kitOne K (.ref (clT X.cn K c)) (codeB X K d) = some (match X.t.sup.lookup c with | some l => l.contains d | none => false)
    rw [hl]; exact h3
  · obtain ⟨l, hl⟩ := Option.isSome_iff_exists.mp (show (X.t.sup.lookup c).isSome = true from hc)
    have h1 := List.all_eq_true.mp xc1 (c, l) (lk_mem hl)
    rw [Bool.and_eq_true] at h1
    have h2 := List.all_eq_true.mp h1.2 d hd
    rw [Bool.and_eq_true] at h2
    have h3 := of_decide_eq_true h2.2
    show PySem.W.exmOne K (.ref (clT X.cn K c)) (codeB X K d) = some (match X.t.sup.lookup c with | some l => l.contains d | none => false)
    rw [hl]; exact h3
  · have hi' : (match X.t.met.lookup c with
      | some ms => ms.lookup m
      | none => none) = some i := hi
    unfold eqB at heq
    rw [hm] at heq
    dsimp only at heq
    cases zm : X.t.met.lookup c with
    | none => rw [zm] at hi'; cases hi'
    | some ms =>
      rw [zm] at hi'
      have h1 := List.all_eq_true.mp heq (c, ms) (lk_mem zm)
      dsimp only at h1 hi'
      rw [hi'] at h1
      rw [Bool.and_eq_true] at h1
      exact ⟨He.eqO_ok h1.1, of_decide_eq_true h1.2⟩
  · have h1 := List.all_eq_true.mp xc2 c hc
    unfold rsOne at h1
    simp only [Bool.and_eq_true] at h1
    obtain ⟨a1, a2, a3, a4⟩ := h1
    exact ⟨a1, a2, of_decide_eq_true a3, tyB_ok a4⟩
abbrev CXf : CXT := fun _ _ _ _ _ _ => False
theorem fn_calm {prog : Program} {w : World} {base : Heap} {k : Nat} {f : Addr} {fd : FuncData} {ps : List Str} {sp : Sp} (F : FnOk prog w K mg base (CX prog w) k f fd ps sp) :
    FnOk prog w K mg base CXf k f fd ps (fun vs H Q E => E = (fun _ _ _ => False) ∧ sp vs H Q E) := by
  refine ⟨fun vs H Q E h => F.len vs H Q E h.2, fun A outer s H args us vs Q E hr e0 hb r h => ?_⟩
  refine codeAny_mono (F.run A outer s H args us vs Q E hr e0 hb r h.2) fun r s' q => ?_
  cases r with
  | ok fl =>
    cases fl with
    | ret u => exact q
    | next => exact q
    | brk => exact q
    | cont => exact q
  | error e =>
    obtain ⟨a, B, H', cls, d, _, _, _, _, _, _, _, hE⟩ := q
    rw [h.1] at hE
    exact hE
theorem law_end {prog : Program} {w : World} {m i : Nat} {d : DI} (hs : stB X = true) (he : exB X K = true) (KX : K.In h) (GX : h.Ns mainGlobals mg) (hD : He.SaysD [] (X.D.map DI.d) K)
    (hbind : ∀ (i : Nat) (d : DI), X.D[i]? = some d → ∀ (kV doc pm : Value) (an : Option Addr) (cdv ct : Value) (us : List Value), us.length = d.ps.length → bindArgs (PySem.W.fnOf d.name d.qual d.params d.body d.scope .none kV doc pm an cdv ct) ⟨us, []⟩ = pure (d.ps.zip us))
    (hsc : ∀ (i : Nat) (d : DI), X.D[i]? = some d → scB d.N d.ps d.scope = true)
    (hfd : ∀ i : Nat, X.t.fds[i]? = (X.D[i]?).map fun d => d.i.fd X.P X.n) (hi : X.D[i]? = some d) (hps : d.ps = [("script" : Str)]) (hat : d.at_ = ((("law" : Str), none) : Str × Option Str)) {fa : Addr} (hfa : mg "law" = some (.ref fa)) (hlaw : (He.Fa.glo "law").ok K = true)
    (plain : ∀ ns : List Int, ns.length ≤ 63 → ∃ bs, sem X.t m i [.val (.xls (ns.map PV.int))] = .ok (.val (.bl true)) bs) :
    ∃ (K : PySem.W.Frag) (fd : FuncData) (sp : Sp), K.In h ∧ (∀ (s : Shared) (u : Value), BindsTo s fd ⟨[u], []⟩ [("script", u)]) ∧
      (∀ (H : Hp) (a : Addr) (ns : List Int), ns.length ≤ 63 → Only H → SqL K H a (ns.map V.int) → sp [.ref a] H (fun v _ => v = .bl true) fun _ _ _ => False) ∧
      ∀ base : Heap, K.In base → base.Ns mainGlobals mg → FnOk prog w K mg base CXf (2 * m) fa fd ["script"] sp := by
  have hdef : ∀ (i : Nat) (d : DI), X.D[i]? = some d → ∃ fd, FunD K d.name d.qual d.params d.body d.scope [] [] (He.fAd K d.at_) fd := fun i d hd => by
    have := hD.def_ i (d := d.d) (by rw [List.getElem?_map, hd]; rfl)
    exact this
  have kf := kf_of (w := w) hs he KX GX hdef hbind hsc hfd
  obtain ⟨fd0, F0⟩ := hdef i d hi
  have ed : d.d.at_ = ((("law" : Str), none) : Str × Option Str) := hat
  have efa : fa = He.fAd K d.at_ := by
    have := hfa.symm.trans (He.glo_ok KX GX hlaw)
    cases this
    rw [hat]; rfl
  have bA := FunD.bindsA F0 (hbind i d hi)
  rw [hps] at bA
  -- at each base its own function object: the same
  refine ⟨K, fd0, fun vs H Q E => E = (fun _ _ _ => False) ∧ spEv (X.G hs K w) 1 (sem X.t m i) vs H Q E, KX, fun s u => bA s [u] rfl, fun H a ns hl _ hS => ⟨rfl, ?_⟩, fun base _ _ => ?_⟩
  · obtain ⟨bs, hb⟩ := plain ns hl
    exact law_sp (G := X.G hs K w) hS hb
  · obtain ⟨fd1, h1, h2, h3, h4, oc, od, osl, hlk⟩ := all_ok (prog := prog) (w := w) (base := base) rfl kf m i d.i (by rw [List.getElem?_map, hi]; rfl)
    have same : fd1 = fd0 := by
      obtain ⟨oc', od', osl', hlk'⟩ := lkF F0
      have e1 : X.faK K i = He.fAd K d.at_ := fa_at hi
      have hlk2 : K.lookup (X.faK K i) = some ⟨oc, od, .func fd1, osl⟩ := hlk
      rw [e1, hlk'] at hlk2
      injection hlk2 with hlk2
      injection hlk2 with _ _ hlk2 _
      injection hlk2 with hlk2
      exact hlk2.symm
    subst same
    have e1 : X.faK K i = fa := by rw [fa_at hi, efa]
    rw [e1] at h1
    have e2 : d.i.ps = [("script" : Str)] := hps
    rw [e2] at h1
    exact fn_calm h1
end
end RF
set_option maxHeartbeats 1000000
namespace RF
open PySem PySem.Spec PyProof.Rows L2 Evl
def plainA (p : Arguments) (ps : List Str) : Bool := p.posonlyargs.isEmpty && (p.kwonlyargs.isEmpty && (p.vararg.isNone && (p.kwarg.isNone && (decide (p.args.map (·.arg) = ps) && decide ps.Nodup))))
theorem zip_look : ∀ {ps : List Str} {us : List Value}, ps.Nodup → us.length = ps.length → ∀ (l : List (Str × Value)), (∀ n ∈ ps, l.lookup n = (ps.zip us).lookup n) → (ps.filterMap fun n => (l.lookup n).map (n, ·)) = ps.zip us
  | [], us, _, _, _, _ => rfl
  | p :: ps, [], _, h, _, _ => by cases h
  | p :: ps, u :: us, nd, h, l, hl => by
    rw [List.nodup_cons] at nd
    have h0 : l.lookup p = some u := by
      rw [hl p List.mem_cons_self, List.zip_cons_cons, List.lookup_cons]
      simp
    rw [List.filterMap_cons, h0, List.zip_cons_cons]
    dsimp only [Option.map]
    congr 1
    refine zip_look nd.2 (by simpa using h) l fun n hn => ?_
    rw [hl n (List.mem_cons_of_mem _ hn), List.zip_cons_cons, List.lookup_cons]
    have : (n == p) = false := by
      rw [beq_eq_false_iff_ne]
      intro q
      subst q
      exact nd.1 hn
    rw [this]
theorem zip_some : ∀ {ps : List Str} {us : List Value}, us.length = ps.length → ∀ n ∈ ps, ((ps.zip us).lookup n).isSome = true
  | p :: ps, [], h, _, _ => by cases h
  | p :: ps, u :: us, h, n, hn => by
    rw [List.zip_cons_cons, List.lookup_cons]
    by_cases e : n = p
    · subst e; simp
    · rw [beq_eq_false_iff_ne.mpr e]
      exact zip_some (by simpa using h) n ((List.mem_cons.mp hn).resolve_left e)
theorem bind_plain {x qual : Str} {params : Arguments} {body : List Stmt} {scope : Scope} {ps : List Str} (h : plainA params ps = true) (kV doc pm : Value) (an : Option Addr) (cdv ct : Value) (us : List Value) (hl : us.length = ps.length) :
    bindArgs (PySem.W.fnOf x qual params body scope .none kV doc pm an cdv ct) ⟨us, []⟩ = pure (ps.zip us) := by
  unfold plainA at h
  simp only [Bool.and_eq_true, List.isEmpty_iff, Option.isNone_iff_eq_none, decide_eq_true_eq] at h
  obtain ⟨h1, h2, h3, h4, h5, h6⟩ := h
  have hs := zip_look h6 hl (ps.zip us) fun _ _ => rfl
  have hm : (ps.filter fun n => ((ps.zip us).lookup n).isNone) = [] := by
    rw [List.filter_eq_nil_iff]
    intro n hn
    have := zip_some hl n hn
    cases z : (ps.zip us).lookup n with
    | none => rw [z] at this; cases this
    | some _ => simp
  have hlt : ¬ us.length > ps.length := by omega
  unfold bindArgs PySem.W.fnOf
  simp only [h1, h2, h3, h4, h5, List.map_nil, List.nil_append, List.append_nil, List.forIn_nil]
  have hcond : (decide (us.length > ps.length) && (none : Option Arg).isNone) = false := by simp [hlt]
  have hdef : (Array.toList (Option.getD (none : Option (Array Value)) #[])) = [] := rfl
  -- the loops are over nothing
  have e0 : ∀ {α β : Type} (a : α) (f : α → Sem β), (pure a >>= f) = f a := fun a f => rfl
  have e1 : seqItems? .none = pure none := rfl
  simp only [e0, e1, hdef, List.drop_nil, List.length_nil, Nat.sub_zero, List.zip_nil_right, List.forIn_nil, hcond]
  simp only [Bool.false_eq_true, if_false, List.take_length, hm, List.isEmpty_nil, Bool.not_true, hs]
end RF
set_option maxHeartbeats 400000
namespace RF
open PySem
section
variable {α β : Type}
@[simp] theorem bind_ok (a : α) (e : Env) (f : α → Env → R β) : (R.ok a e).bind f = f a e := (rfl)
@[simp] theorem bind_exc (x : Exn) (e : Env) (f : α → Env → R β) : (R.exc x e).bind f = R.exc x e := (rfl)
@[simp] theorem bind_bad (f : α → Env → R β) : (R.bad).bind f = R.bad := (rfl)
@[simp] theorem of_ok (a : α) (e : Env) (f : α → Env → SR) : SR.of (R.ok a e) f = f a e := (rfl)
@[simp] theorem of_exc (x : Exn) (e : Env) (f : α → Env → SR) : SR.of (R.exc x e) f = SR.exc x e := (rfl)
@[simp] theorem of_bad (f : α → Env → SR) : SR.of (R.bad) f = SR.bad := (rfl)
theorem bind_ite (c : Prop) [Decidable c] (a b : R α) (f : α → Env → R β) : (if c then a else b).bind f = if c then a.bind f else b.bind f := by split <;> rfl
theorem of_ite (c : Prop) [Decidable c] (a b : R α) (f : α → Env → SR) : SR.of (if c then a else b) f = if c then SR.of a f else SR.of b f := by split <;> rfl
end
def SR.then (r : SR) (f : Env → SR) : SR := match r with
  | .nx e => f e
  | r => r
@[simp] theorem then_nx (e : Env) (f : Env → SR) : (SR.nx e).then f = f e := (rfl)
@[simp] theorem then_rt (s : Slot) (e : Env) (f : Env → SR) : (SR.rt s e).then f = .rt s e := (rfl)
@[simp] theorem then_bk (e : Env) (f : Env → SR) : (SR.bk e).then f = .bk e := (rfl)
@[simp] theorem then_ct (e : Env) (f : Env → SR) : (SR.ct e).then f = .ct e := (rfl)
@[simp] theorem then_exc (x : Exn) (e : Env) (f : Env → SR) : (SR.exc x e).then f = .exc x e := (rfl)
@[simp] theorem then_bad (f : Env → SR) : (SR.bad).then f = .bad := (rfl)
theorem then_ite (c : Prop) [Decidable c] (a b : SR) (f : Env → SR) : (if c then a else b).then f = if c then a.then f else b.then f := by split <;> rfl
theorem ite_nx (c : Prop) [Decidable c] (a b : Env) : (if c then SR.nx a else SR.nx b) = SR.nx (if c then a else b) := by split <;> rfl
theorem ite_cons {α : Type} (c : Prop) [Decidable c] (a b : α) (x y : List α) : (if c then a :: x else b :: y) = (if c then a else b) :: (if c then x else y) := by split <;> rfl
@[simp] theorem onlySl_sl (s : Slot) (e : Env) : onlySl (.sl s) e = .ok (.sl s) e := (rfl)
@[simp] theorem cond_and (k q : Bool) (e : Env) : (bif k then (R.ok (EV.sl (.val (.bl q))) e) else R.ok (EV.sl (.val (.bl false))) e) = R.ok (EV.sl (.val (.bl (k && q)))) e := by cases k <;> rfl
@[simp] theorem cond_or (k q : Bool) (e : Env) : (bif k then (R.ok (EV.sl (.val (.bl true))) e) else R.ok (EV.sl (.val (.bl q))) e) = R.ok (EV.sl (.val (.bl (k || q)))) e := by cases k <;> rfl
@[simp] theorem condT_and (k q : Bool) (e : Env) : (bif k then (R.ok q e) else R.ok false e) = R.ok (k && q) e := by cases k <;> rfl
@[simp] theorem condT_or (k q : Bool) (e : Env) : (bif k then (R.ok true e) else R.ok q e) = R.ok (k || q) e := by cases k <;> rfl
@[simp] theorem cond_and' (k q : Bool) (e : Env) : (bif k then R.ok (EV.sl (.val (.bl false))) e else R.ok (EV.sl (.val (.bl q))) e) = R.ok (EV.sl (.val (.bl (!k && q)))) e := by cases k <;> rfl
@[simp] theorem cond_or' (k q : Bool) (e : Env) : (bif k then R.ok (EV.sl (.val (.bl q))) e else R.ok (EV.sl (.val (.bl true))) e) = R.ok (EV.sl (.val (.bl (!k || q)))) e := by cases k <;> rfl
@[simp] theorem condT_and' (k q : Bool) (e : Env) : (bif k then R.ok false e else R.ok q e) = R.ok (!k && q) e := by cases k <;> rfl
@[simp] theorem condT_or' (k q : Bool) (e : Env) : (bif k then R.ok q e else R.ok true e) = R.ok (!k || q) e := by cases k <;> rfl
@[simp] theorem cond_opt {α : Type} (k : Bool) (a : α) (e : Env) : (bif k then R.ok (some a) e else R.ok none e) = R.ok (if k = true then some a else none) e := by cases k <;> rfl
@[simp] theorem cond_opt' {α : Type} (k : Bool) (a : α) (e : Env) : (bif k then R.ok none e else R.ok (some a) e) = R.ok (if (!k) = true then some a else none) e := by cases k <;> rfl
def k_op2A (g : Gl) (p : P2) (b : T) : R EV → R EV
  | .ok v e => (evE g b e).bind (kOp2 p v)
  | .exc x e => .exc x e
  | .bad => .bad
@[simp] theorem op2A_ok (g : Gl) (p : P2) (b : T) (v : EV) (e : Env) : k_op2A g p b (.ok v e) = (evE g b e).bind (kOp2 p v) := (rfl)
@[simp] theorem op2A_exc (g : Gl) (p : P2) (b : T) (z : Exn) (e : Env) : k_op2A g p b (.exc z e) = .exc z e := (rfl)
def k_lixA (g : Gl) (b : T) : R EV → R EV
  | .ok v e => if isLst (valOf e v) then (evE g b e).bind (kOp2 .index v) else .bad
  | .exc x e => .exc x e
  | .bad => .bad
@[simp] theorem lixA_ok (g : Gl) (b : T) (v : EV) (e : Env) : k_lixA g b (.ok v e) = if isLst (valOf e v) then (evE g b e).bind (kOp2 .index v) else .bad := (rfl)
@[simp] theorem lixA_exc (g : Gl) (b : T) (z : Exn) (e : Env) : k_lixA g b (.exc z e) = .exc z e := (rfl)
def k_tixA (g : Gl) (b : T) : R EV → R EV
  | .ok v e => (evE g b e).bind (kTix v)
  | .exc x e => .exc x e
  | .bad => .bad
@[simp] theorem tixA_ok (g : Gl) (b : T) (v : EV) (e : Env) : k_tixA g b (.ok v e) = (evE g b e).bind (kTix v) := (rfl)
@[simp] theorem tixA_exc (g : Gl) (b : T) (z : Exn) (e : Env) : k_tixA g b (.exc z e) = .exc z e := (rfl)
def k_chnC (g : Gl) (q : P2) (x : EV) (c : T) : R Bool → R EV
  | .ok v e => bif v then (evE g c e).bind (kOp2 q x) else .ok (.sl (.val (.bl false))) e
  | .exc x e => .exc x e
  | .bad => .bad
@[simp high] theorem chnC_t (g : Gl) (q : P2) (x : EV) (c : T) (e : Env) : k_chnC g q x c (.ok true e) = (evE g c e).bind (kOp2 q x) := (rfl)
@[simp high] theorem chnC_f (g : Gl) (q : P2) (x : EV) (c : T) (e : Env) : k_chnC g q x c (.ok false e) = .ok (.sl (.val (.bl false))) e := (rfl)
@[simp] theorem chnC_ok (g : Gl) (q : P2) (x : EV) (c : T) (v : Bool) (e : Env) : k_chnC g q x c (.ok v e) = bif v then (evE g c e).bind (kOp2 q x) else .ok (.sl (.val (.bl false))) e := (rfl)
@[simp] theorem chnC_exc (g : Gl) (q : P2) (x : EV) (c : T) (z : Exn) (e : Env) : k_chnC g q x c (.exc z e) = .exc z e := (rfl)
def k_chnB (g : Gl) (p : P2) (q : P2) (u : EV) (c : T) : R EV → R EV
  | .ok v e => k_chnC g q v c (kChn p u v e)
  | .exc x e => .exc x e
  | .bad => .bad
@[simp] theorem chnB_ok (g : Gl) (p : P2) (q : P2) (u : EV) (c : T) (v : EV) (e : Env) : k_chnB g p q u c (.ok v e) = k_chnC g q v c (kChn p u v e) := (rfl)
@[simp] theorem chnB_exc (g : Gl) (p : P2) (q : P2) (u : EV) (c : T) (z : Exn) (e : Env) : k_chnB g p q u c (.exc z e) = .exc z e := (rfl)
def k_chnA (g : Gl) (p : P2) (q : P2) (b : T) (c : T) : R EV → R EV
  | .ok v e => k_chnB g p q v c (evE g b e)
  | .exc x e => .exc x e
  | .bad => .bad
@[simp] theorem chnA_ok (g : Gl) (p : P2) (q : P2) (b : T) (c : T) (v : EV) (e : Env) : k_chnA g p q b c (.ok v e) = k_chnB g p q v c (evE g b e) := (rfl)
@[simp] theorem chnA_exc (g : Gl) (p : P2) (q : P2) (b : T) (c : T) (z : Exn) (e : Env) : k_chnA g p q b c (.exc z e) = .exc z e := (rfl)
def k_slcC (u : EV) (l : Option Int) : R (Option Int) → R EV
  | .ok v e => outO (cutO (valOf e u) l v) e
  | .exc x e => .exc x e
  | .bad => .bad
@[simp] theorem slcC_ok (u : EV) (l : Option Int) (v : Option Int) (e : Env) : k_slcC u l (.ok v e) = outO (cutO (valOf e u) l v) e := (rfl)
@[simp] theorem slcC_exc (u : EV) (l : Option Int) (z : Exn) (e : Env) : k_slcC u l (.exc z e) = .exc z e := (rfl)
def k_slcB (g : Gl) (u : EV) (hi : T) : R (Option Int) → R EV
  | .ok v e => k_slcC u v (evO g hi e)
  | .exc x e => .exc x e
  | .bad => .bad
@[simp] theorem slcB_ok (g : Gl) (u : EV) (hi : T) (v : Option Int) (e : Env) : k_slcB g u hi (.ok v e) = k_slcC u v (evO g hi e) := (rfl)
@[simp] theorem slcB_exc (g : Gl) (u : EV) (hi : T) (z : Exn) (e : Env) : k_slcB g u hi (.exc z e) = .exc z e := (rfl)
def k_slcA (g : Gl) (lo : T) (hi : T) : R EV → R EV
  | .ok v e => k_slcB g v hi (evO g lo e)
  | .exc x e => .exc x e
  | .bad => .bad
@[simp] theorem slcA_ok (g : Gl) (lo : T) (hi : T) (v : EV) (e : Env) : k_slcA g lo hi (.ok v e) = k_slcB g v hi (evO g lo e) := (rfl)
@[simp] theorem slcA_exc (g : Gl) (lo : T) (hi : T) (z : Exn) (e : Env) : k_slcA g lo hi (.exc z e) = .exc z e := (rfl)
def k_andK (g : Gl) (b : T) : R EV → R EV
  | .ok v e => match boolOf v with | some k => (bif k then (evE g b e).bind onlySl else .ok (.sl (.val (.bl false))) e) | none => .bad
  | .exc x e => .exc x e
  | .bad => .bad
@[simp high] theorem andK_t (g : Gl) (b : T) (e : Env) : k_andK g b (.ok (.sl (.val (.bl true))) e) = (evE g b e).bind onlySl := (rfl)
@[simp high] theorem andK_f (g : Gl) (b : T) (e : Env) : k_andK g b (.ok (.sl (.val (.bl false))) e) = .ok (.sl (.val (.bl false))) e := (rfl)
@[simp] theorem andK_ok (g : Gl) (b : T) (k : Bool) (e : Env) : k_andK g b (.ok (.sl (.val (.bl k))) e) = bif k then (evE g b e).bind onlySl else .ok (.sl (.val (.bl false))) e := (rfl)
@[simp] theorem andK_exc (g : Gl) (b : T) (z : Exn) (e : Env) : k_andK g b (.exc z e) = .exc z e := (rfl)
def k_orK (g : Gl) (b : T) : R EV → R EV
  | .ok v e => match boolOf v with | some k => (bif k then .ok (.sl (.val (.bl true))) e else (evE g b e).bind onlySl) | none => .bad
  | .exc x e => .exc x e
  | .bad => .bad
@[simp high] theorem orK_t (g : Gl) (b : T) (e : Env) : k_orK g b (.ok (.sl (.val (.bl true))) e) = .ok (.sl (.val (.bl true))) e := (rfl)
@[simp high] theorem orK_f (g : Gl) (b : T) (e : Env) : k_orK g b (.ok (.sl (.val (.bl false))) e) = (evE g b e).bind onlySl := (rfl)
@[simp] theorem orK_ok (g : Gl) (b : T) (k : Bool) (e : Env) : k_orK g b (.ok (.sl (.val (.bl k))) e) = bif k then .ok (.sl (.val (.bl true))) e else (evE g b e).bind onlySl := (rfl)
@[simp] theorem orK_exc (g : Gl) (b : T) (z : Exn) (e : Env) : k_orK g b (.exc z e) = .exc z e := (rfl)
def k_ifeK (g : Gl) (a : T) (b : T) : R Bool → R EV
  | .ok v e => bif v then (evE g a e).bind onlySl else (evE g b e).bind onlySl
  | .exc x e => .exc x e
  | .bad => .bad
@[simp high] theorem ifeK_t (g : Gl) (a : T) (b : T) (e : Env) : k_ifeK g a b (.ok true e) = (evE g a e).bind onlySl := (rfl)
@[simp high] theorem ifeK_f (g : Gl) (a : T) (b : T) (e : Env) : k_ifeK g a b (.ok false e) = (evE g b e).bind onlySl := (rfl)
@[simp] theorem ifeK_ok (g : Gl) (a : T) (b : T) (v : Bool) (e : Env) : k_ifeK g a b (.ok v e) = bif v then (evE g a e).bind onlySl else (evE g b e).bind onlySl := (rfl)
@[simp] theorem ifeK_exc (g : Gl) (a : T) (b : T) (z : Exn) (e : Env) : k_ifeK g a b (.exc z e) = .exc z e := (rfl)
def k_mthC (g : Gl) (v0 : EV) (f : Nat) : R (List EV) → R EV
  | .ok v e => callR g.sem f (v0 :: v) e
  | .exc x e => .exc x e
  | .bad => .bad
@[simp] theorem mthC_ok (g : Gl) (v0 : EV) (f : Nat) (v : List EV) (e : Env) : k_mthC g v0 f (.ok v e) = callR g.sem f (v0 :: v) e := (rfl)
@[simp] theorem mthC_exc (g : Gl) (v0 : EV) (f : Nat) (z : Exn) (e : Env) : k_mthC g v0 f (.exc z e) = .exc z e := (rfl)
def k_mthB (g : Gl) (v0 : EV) (as : T) : R Nat → R EV
  | .ok v e => k_mthC g v0 v (evA g as e)
  | .exc x e => .exc x e
  | .bad => .bad
@[simp] theorem mthB_ok (g : Gl) (v0 : EV) (as : T) (v : Nat) (e : Env) : k_mthB g v0 as (.ok v e) = k_mthC g v0 v (evA g as e) := (rfl)
@[simp] theorem mthB_exc (g : Gl) (v0 : EV) (as : T) (z : Exn) (e : Env) : k_mthB g v0 as (.exc z e) = .exc z e := (rfl)
def k_mthA (g : Gl) (m : Nat) (as : T) : R EV → R EV
  | .ok v e => k_mthB g v as (mthO g m v e)
  | .exc x e => .exc x e
  | .bad => .bad
@[simp] theorem mthA_ok (g : Gl) (m : Nat) (as : T) (v : EV) (e : Env) : k_mthA g m as (.ok v e) = k_mthB g v as (mthO g m v e) := (rfl)
@[simp] theorem mthA_exc (g : Gl) (m : Nat) (as : T) (z : Exn) (e : Env) : k_mthA g m as (.exc z e) = .exc z e := (rfl)
def k_ieqA (g : Gl) (m : Nat) (b : T) : R EV → R EV
  | .ok v e => (evE g b e).bind (kIeq g m v)
  | .exc x e => .exc x e
  | .bad => .bad
@[simp] theorem ieqA_ok (g : Gl) (m : Nat) (b : T) (v : EV) (e : Env) : k_ieqA g m b (.ok v e) = (evE g b e).bind (kIeq g m v) := (rfl)
@[simp] theorem ieqA_exc (g : Gl) (m : Nat) (b : T) (z : Exn) (e : Env) : k_ieqA g m b (.exc z e) = .exc z e := (rfl)
def k_conB (v0 : EV) : R (List EV) → R (List EV)
  | .ok v e => .ok (v0 :: v) e
  | .exc x e => .exc x e
  | .bad => .bad
@[simp] theorem conB_ok (v0 : EV) (v : List EV) (e : Env) : k_conB v0 (.ok v e) = .ok (v0 :: v) e := (rfl)
@[simp] theorem conB_exc (v0 : EV) (z : Exn) (e : Env) : k_conB v0 (.exc z e) = .exc z e := (rfl)
def k_conA (g : Gl) (r : T) : R EV → R (List EV)
  | .ok v e => k_conB v (evA g r e)
  | .exc x e => .exc x e
  | .bad => .bad
@[simp] theorem conA_ok (g : Gl) (r : T) (v : EV) (e : Env) : k_conA g r (.ok v e) = k_conB v (evA g r e) := (rfl)
@[simp] theorem conA_exc (g : Gl) (r : T) (z : Exn) (e : Env) : k_conA g r (.exc z e) = .exc z e := (rfl)
def k_notK  : R Bool → R Bool
  | .ok v e => .ok (!v) e
  | .exc x e => .exc x e
  | .bad => .bad
@[simp] theorem notK_ok (v : Bool) (e : Env) : k_notK  (.ok v e) = .ok (!v) e := (rfl)
@[simp] theorem notK_exc (z : Exn) (e : Env) : k_notK  (.exc z e) = .exc z e := (rfl)
def k_andT (g : Gl) (b : T) : R Bool → R Bool
  | .ok v e => bif v then evT g b e else .ok false e
  | .exc x e => .exc x e
  | .bad => .bad
@[simp high] theorem andT_t (g : Gl) (b : T) (e : Env) : k_andT g b (.ok true e) = evT g b e := (rfl)
@[simp high] theorem andT_f (g : Gl) (b : T) (e : Env) : k_andT g b (.ok false e) = .ok false e := (rfl)
@[simp] theorem andT_ok (g : Gl) (b : T) (v : Bool) (e : Env) : k_andT g b (.ok v e) = bif v then evT g b e else .ok false e := (rfl)
@[simp] theorem andT_exc (g : Gl) (b : T) (z : Exn) (e : Env) : k_andT g b (.exc z e) = .exc z e := (rfl)
def k_orT (g : Gl) (b : T) : R Bool → R Bool
  | .ok v e => bif v then .ok true e else evT g b e
  | .exc x e => .exc x e
  | .bad => .bad
@[simp high] theorem orT_t (g : Gl) (b : T) (e : Env) : k_orT g b (.ok true e) = .ok true e := (rfl)
@[simp high] theorem orT_f (g : Gl) (b : T) (e : Env) : k_orT g b (.ok false e) = evT g b e := (rfl)
@[simp] theorem orT_ok (g : Gl) (b : T) (v : Bool) (e : Env) : k_orT g b (.ok v e) = bif v then .ok true e else evT g b e := (rfl)
@[simp] theorem orT_exc (g : Gl) (b : T) (z : Exn) (e : Env) : k_orT g b (.exc z e) = .exc z e := (rfl)
def k_sif (g : Gl) (a b : T) : R Bool → SR
  | .ok v e => bif v then evS g a e else evS g b e
  | .exc x e => .exc x e
  | .bad => .bad
@[simp high] theorem sif_t (g : Gl) (a b : T) (e : Env) : k_sif g a b (.ok true e) = evS g a e := (rfl)
@[simp high] theorem sif_f (g : Gl) (a b : T) (e : Env) : k_sif g a b (.ok false e) = evS g b e := (rfl)
@[simp] theorem sif_ok (g : Gl) (a b : T) (k : Bool) (e : Env) : k_sif g a b (.ok k e) = bif k then evS g a e else evS g b e := (rfl)
@[simp] theorem sif_exc (g : Gl) (a b : T) (z : Exn) (e : Env) : k_sif g a b (.exc z e) = .exc z e := (rfl)
def k_xpr : R EV → SR
  | .ok _ e => .nx e
  | .exc x e => .exc x e
  | .bad => .bad
@[simp] theorem xpr_ok (v : EV) (e : Env) : k_xpr (.ok v e) = .nx e := (rfl)
@[simp] theorem xpr_exc (z : Exn) (e : Env) : k_xpr (.exc z e) = .exc z e := (rfl)
def k_iset (g : Gl) (i : Nat) (fs : List Nat) (k : T) : R EV → SR
  | .ok v e => if fitsI (getP e i fs) then SR.of (evE g k e) (kIset i fs v) else .bad
  | .exc x e => .exc x e
  | .bad => .bad
@[simp] theorem iset_ok (g : Gl) (i : Nat) (fs : List Nat) (k : T) (v : EV) (e : Env) : k_iset g i fs k (.ok v e) = if fitsI (getP e i fs) then SR.of (evE g k e) (kIset i fs v) else .bad := (rfl)
@[simp] theorem iset_exc (g : Gl) (i : Nat) (fs : List Nat) (k : T) (z : Exn) (e : Env) : k_iset g i fs k (.exc z e) = .exc z e := (rfl)
def triK (g : Gl) (c : Nat) (ns : List Nat) (su : T) : SR → SR
  | .exc x e1 => if g.isx x.c then (if g.sub x.c c then (if triOk g ns x e1 then triOut ns (evS g su (triIn ns x e1)) else .bad) else .exc x e1) else .bad
  | r => r
section
variable (g : Gl) (c i : Nat) (ns cs : List Nat) (su : T) (x : Exn) (e : Env) (s : Slot)
@[simp] theorem triK_exc : triK g c ns su (.exc x e) = if g.isx x.c then (if g.sub x.c c then (if triOk g ns x e then triOut ns (evS g su (triIn ns x e)) else .bad) else .exc x e) else .bad := (rfl)
@[simp] theorem triK_nx : triK g c ns su (.nx e) = .nx e := (rfl)
@[simp] theorem triK_rt : triK g c ns su (.rt s e) = .rt s e := (rfl)
@[simp] theorem triK_bk : triK g c ns su (.bk e) = .bk e := (rfl)
@[simp] theorem triK_ct : triK g c ns su (.ct e) = .ct e := (rfl)
@[simp] theorem xis_exn (d : Nat) (fs : List (Nat × PV)) : kXis g cs e (some (.exn d fs)) = .ok (.sl (.val (.bl (cs.any (g.sub d))))) e := (rfl)
@[simp] theorem triOk_0 : triOk g [] x e = noXs e := by unfold triOk; simp
@[simp] theorem triOk_1 : triOk g [i] x e = (noXs e && (x.fs.isEmpty && decide (i < e.length))) := (rfl)
@[simp] theorem triIn_0 : triIn [] x e = e := (rfl)
@[simp] theorem triIn_1 : triIn [i] x e = e.set i (.exn x.c x.fs) := (rfl)
@[simp] theorem triOff_0 : triOff [] e = e := (rfl)
@[simp] theorem triOff_1 : triOff [i] e = e.set i .dead := (rfl)
@[simp] theorem triOut_nx : triOut ns (.nx e) = if noXs (triOff ns e) then .nx (triOff ns e) else .bad := (rfl)
@[simp] theorem triOut_rt : triOut ns (.rt s e) = if noX s && noXs (triOff ns e) then .rt s (triOff ns e) else .bad := (rfl)
@[simp] theorem triOut_ct : triOut ns (.ct e) = if noXs (triOff ns e) then .ct (triOff ns e) else .bad := (rfl)
@[simp] theorem triOut_bk : triOut ns (.bk e) = if noXs (triOff ns e) then .bk (triOff ns e) else .bad := (rfl)
@[simp] theorem noX_val (v : PV) : noX (.val v) = true := by simp [noX]
@[simp] theorem noX_lst (v : List PV) : noX (.olst v) = true := by simp [noX]
@[simp] theorem noX_dic (v : List (PV × PV)) : noX (.odic v) = true := by simp [noX]
@[simp] theorem noX_dead : noX .dead = true := by simp [noX]
@[simp] theorem noX_ins (c : Nat) (fs : List (Nat × Slot)) : noX (.oins c fs) = noXF fs := by rw [noX]
@[simp] theorem noXF_nil : noXF [] = true := by rw [noXF]
@[simp] theorem noXF_cons (n : Nat) (s : Slot) (r : List (Nat × Slot)) : noXF ((n, s) :: r) = (noX s && noXF r) := by rw [noXF]
@[simp] theorem noXs_nil : noXs [] = true := (rfl)
@[simp] theorem noXs_cons : noXs (s :: e) = (noX s && noXs e) := (rfl)
@[simp] theorem kRse_0 : kRse g c [] e = if g.xat c = some [] then .exc ⟨c, []⟩ e else .bad := by
  unfold kRse
  have hu : upsOf e ([] : List EV) = some [] := by rw [upsOf]
  rw [hu]
  split
  · rename_i h1 h2; cases h2; rename_i ns
    cases ns with
    | nil => simp [h1]
    | cons a r => simp [h1]
  · rename_i h
    split
    · rename_i h1; exact absurd rfl (h [] [] h1)
    · rfl
end
section
variable (g : Gl) (e : Env)
@[simp] theorem ev_con (v : PV) : evE g (.con v) e = .ok (.sl (.val v)) e := by rw [evE]
@[simp] theorem ev_nam (i : Nat) : evE g (.nam i) e = readP e i [] := by rw [evE]
@[simp] theorem ev_rdp (i : Nat) (fs : List Nat) : evE g (.rdp i fs) e = readP e i fs := by rw [evE]
@[simp] theorem ev_mov (i : Nat) : evE g (.mov i) e = kMov i e := by rw [evE]
@[simp] theorem ev_plc (i : Nat) (fs : List Nat) : evE g (.plc i fs) e = kPlc i fs e := by rw [evE]
@[simp] theorem ev_gtv (i : Nat) (fs : List Nat) : evE g (.gtv i fs) e = kGtv i fs e := by rw [evE]
@[simp] theorem ev_fld (a : T) (f : Nat) : evE g (.fld a f) e = (evE g a e).bind (kFld f) := by rw [evE]
@[simp] theorem ev_op1 (p : P1) (a : T) : evE g (.op1 p a) e = (evE g a e).bind (kOp1 p) := by rw [evE]
@[simp] theorem ev_op2 (p : P2) (a b : T) : evE g (.op2 p a b) e = k_op2A g p b (evE g a e) := by
  rw [evE]
  cases evE g a e <;> rfl
@[simp] theorem ev_lix (a b : T) : evE g (.lix a b) e = k_lixA g b (evE g a e) := by
  rw [evE]
  cases evE g a e <;> rfl
@[simp] theorem ev_tix (as b : T) : evE g (.tix as b) e = k_tixA g b ((evA g as e).bind kTup) := by
  rw [evE]
  cases (evA g as e).bind kTup <;> rfl
@[simp] theorem ev_chn (p q : P2) (a b c : T) : evE g (.chn p q a b c) e = k_chnA g p q b c (evE g a e) := by
  rw [evE]
  cases evE g a e with
  | ok u e =>
    show (evE g b e).bind _ = k_chnB g p q u c (evE g b e)
    cases evE g b e with
    | ok v e =>
      show (kChn p u v e).bind _ = k_chnC g q v c (kChn p u v e)
      cases kChn p u v e with
      | ok k e => cases k <;> rfl
      | exc x e => rfl
      | bad => rfl
    | exc x e => rfl
    | bad => rfl
  | exc x e => rfl
  | bad => rfl
@[simp] theorem ev_slc (a lo hi : T) : evE g (.slc a lo hi) e = k_slcA g lo hi (evE g a e) := by
  rw [evE]
  cases evE g a e with
  | ok u e =>
    show (evO g lo e).bind _ = k_slcB g u hi (evO g lo e)
    cases evO g lo e with
    | ok v e =>
      show (evO g hi e).bind _ = k_slcC u v (evO g hi e)
      cases evO g hi e <;> rfl
    | exc x e => rfl
    | bad => rfl
  | exc x e => rfl
  | bad => rfl
@[simp] theorem ev_andV (t b : T) : evE g (.andV t b) e = k_andK g b (evE g t e) := by
  rw [evE]
  cases evE g t e with
  | ok v e =>
    show (match boolOf v with | some true => _ | some false => _ | none => _) = (match boolOf v with | some k => _ | none => _)
    rcases boolOf v with _ | (_ | _) <;> rfl
  | exc x e => rfl
  | bad => rfl
@[simp] theorem ev_orV (t b : T) : evE g (.orV t b) e = k_orK g b (evE g t e) := by
  rw [evE]
  cases evE g t e with
  | ok v e =>
    show (match boolOf v with | some false => _ | some true => _ | none => _) = (match boolOf v with | some k => _ | none => _)
    rcases boolOf v with _ | (_ | _) <;> rfl
  | exc x e => rfl
  | bad => rfl
@[simp] theorem ev_ife (t a b : T) : evE g (.ife t a b) e = k_ifeK g a b (evT g t e) := by
  rw [evE]
  cases evT g t e with
  | ok k e => cases k <;> rfl
  | exc x e => rfl
  | bad => rfl
@[simp] theorem ev_tup (as : T) : evE g (.tup as) e = (evA g as e).bind kTup := by rw [evE]
@[simp] theorem ev_lst (as : T) : evE g (.lst as) e = (evA g as e).bind kLst := by rw [evE]
@[simp] theorem ev_call (f : Nat) (as : T) : evE g (.call f as) e = (evA g as e).bind (callR g.sem f) := by rw [evE]
@[simp] theorem ev_mak (c : Nat) (as : T) : evE g (.mak c as) e = (evA g as e).bind (makR g c) := by rw [evE]
@[simp] theorem ev_mth (m : Nat) (o as : T) : evE g (.mth m o as) e = k_mthA g m as (evE g o e) := by
  rw [evE]
  cases evE g o e with
  | ok u e =>
    show (mthO g m u e).bind _ = k_mthB g u as (mthO g m u e)
    cases mthO g m u e with
    | ok v e =>
      show (evA g as e).bind _ = k_mthC g u v (evA g as e)
      cases evA g as e <;> rfl
    | exc x e => rfl
    | bad => rfl
  | exc x e => rfl
  | bad => rfl
@[simp] theorem ev_mut (m : Mut) (i : Nat) (fs : List Nat) (as : T) : evE g (.mut m i fs as) e = if fits m (getP e i fs) then (evA g as e).bind (kMut m i fs) else .bad := by rw [evE]
@[simp] theorem ev_lc (own : List Nat) (it tg cs el : T) : evE g (.lc own it tg cs el) e = (evI g it e).bind (kLc own tg (evT g cs) (evE g el)) := by rw [evE]
@[simp] theorem ev_dlc (own : List Nat) (it tg cs ke ve : T) : evE g (.dlc own it tg cs ke ve) e = (evI g it e).bind (kDc own tg (evT g cs) (evE g ke) (evE g ve)) := by rw [evE]
@[simp] theorem ev_dct : evE g .dct e = .ok (.sl (.odic [])) e := by rw [evE]
@[simp] theorem ev_lol (as : T) : evE g (.lol as) e = (evA g as e).bind kLol := by rw [evE]
@[simp] theorem ev_plx (i : Nat) (fs : List Nat) (k : T) : evE g (.plx i fs k) e = if isOwn (getP e i fs) then (evE g k e).bind (kPlx i fs) else .bad := by rw [evE]
def k_mx (g : Gl) (m : Mut) (i : Nat) (fs : List Nat) (as : T) (e : Env) : Option Nat → R EV
  | some j => if fits m (getP e i (fs ++ [j])) then (evA g as e).bind (kMut m i (fs ++ [j])) else .bad
  | none => .bad
@[simp] theorem k_mx_some (m : Mut) (i : Nat) (fs : List Nat) (as : T) (j : Nat) : k_mx g m i fs as e (some j) = if fits m (getP e i (fs ++ [j])) then (evA g as e).bind (kMut m i (fs ++ [j])) else .bad := (rfl)
def k_mux (g : Gl) (m : Mut) (i : Nat) (fs : List Nat) (as : T) : R EV → R EV
  | .ok w e => k_mx g m i fs as e (plxO (getP e i fs) (valOf e w))
  | .exc x e => .exc x e
  | .bad => .bad
@[simp] theorem k_mux_ok (m : Mut) (i : Nat) (fs : List Nat) (as : T) (w : EV) : k_mux g m i fs as (.ok w e) = k_mx g m i fs as e (plxO (getP e i fs) (valOf e w)) := (rfl)
@[simp] theorem k_mux_exc (m : Mut) (i : Nat) (fs : List Nat) (as : T) (x : Exn) : k_mux g m i fs as (.exc x e) = .exc x e := (rfl)
@[simp] theorem ev_mux (m : Mut) (i : Nat) (fs : List Nat) (k as : T) : evE g (.mux m i fs k as) e = if isOwn (getP e i fs) then k_mux g m i fs as (evE g k e) else .bad := by
  rw [evE]
  split
  · cases evE g k e with
    | ok w e1 =>
      show (match plxO (getP e1 i fs) (valOf e1 w) with | some j => _ | none => _) = k_mx g m i fs as e1 (plxO (getP e1 i fs) (valOf e1 w))
      cases plxO (getP e1 i fs) (valOf e1 w) <;> rfl
    | exc x e1 => rfl
    | bad => rfl
  · rfl
@[simp] theorem ev_lrng (as : T) : evE g (.lrng as) e = (evA g as e).bind kLrng := by rw [evE]
@[simp] theorem ev_trng (as : T) : evE g (.trng as) e = (evA g as e).bind kTrng := by rw [evE]
@[simp] theorem ev_ieq (m : Nat) (a b : T) : evE g (.ieq m a b) e = k_ieqA g m b (evE g a e) := by
  rw [evE]
  cases evE g a e <;> rfl
@[simp] theorem eo_nop : evO g .nop e = .ok none e := by rw [evO]
@[simp] theorem eo_prt (a : T) : evO g (.prt a) e = (evE g a e).bind kPrt := by rw [evO]
@[simp] theorem ea_nil : evA g .nil e = .ok [] e := by rw [evA]
@[simp] theorem ea_cons (a r : T) : evA g (.cons a r) e = k_conA g r (evE g a e) := by
  rw [evA]
  cases evE g a e with
  | ok u e =>
    show (evA g r e).bind _ = k_conB u (evA g r e)
    cases evA g r e <;> rfl
  | exc x e => rfl
  | bad => rfl
@[simp] theorem et_tru (a : T) : evT g (.tru a) e = (evE g a e).bind kTru := by rw [evT]
@[simp] theorem et_bol (a : T) : evT g (.bol a) e = (evE g a e).bind kBol := by rw [evT]
@[simp] theorem et_not (t : T) : evT g (.notT t) e = k_notK (evT g t e) := by
  rw [evT]
  cases evT g t e <;> rfl
@[simp] theorem et_and (a b : T) : evT g (.andT a b) e = k_andT g b (evT g a e) := by
  rw [evT]
  cases evT g a e with
  | ok k e => cases k <;> rfl
  | exc x e => rfl
  | bad => rfl
@[simp] theorem et_or (a b : T) : evT g (.orT a b) e = k_orT g b (evT g a e) := by
  rw [evT]
  cases evT g a e with
  | ok k e => cases k <;> rfl
  | exc x e => rfl
  | bad => rfl
@[simp] theorem et_nop : evT g .nop e = .ok true e := by rw [evT]
@[simp] theorem ei_isq (a : T) : evI g (.isq a) e = (evE g a e).bind kIsq := by rw [evI]
@[simp] theorem ei_rng (as : T) : evI g (.irng as) e = (evA g as e).bind kRng := by rw [evI]
@[simp] theorem ei_rn3 (as : T) : evI g (.irn3 as) e = (evA g as e).bind kRng3 := by rw [evI]
@[simp] theorem es_nop : evS g .nop e = .nx e := by rw [evS]
@[simp] theorem es_seq (a b : T) : evS g (.seq a b) e = (evS g a e).then (evS g b) := by rw [evS]; rfl
@[simp] theorem es_asg (tg x : T) : evS g (.asg tg x) e = SR.of (evE g x e) (kAsg tg) := by rw [evS]
def augK (p : P2) (i : Nat) (r : R EV) : Option Slot → SR
  | some (.val v) => SR.of r (kAug i p v)
  | _ => .bad
@[simp] theorem es_aug (i : Nat) (p : P2) (x : T) : evS g (.aug i p x) e = augK p i (evE g x e) e[i]? := by
  rw [evS]; unfold augK; split <;> simp_all
@[simp] theorem augK_val (p : P2) (i : Nat) (r : R EV) (v : PV) : augK p i r (some (.val v)) = SR.of r (kAug i p v) := (rfl)
@[simp] theorem es_fset (i : Nat) (fs : List Nat) (f : Nat) (x : T) : evS g (.fset i fs f x) e = SR.of (evE g x e) (kFset g i fs f) := by rw [evS]
@[simp] theorem es_iset (i : Nat) (fs : List Nat) (k x : T) : evS g (.iset i fs k x) e = k_iset g i fs k (evE g x e) := by
  rw [evS]
  cases evE g x e <;> rfl
@[simp] theorem es_xpr (x : T) : evS g (.xpr x) e = k_xpr (evE g x e) := by
  rw [evS]
  cases evE g x e <;> rfl
@[simp] theorem es_sif (t a b : T) : evS g (.sif t a b) e = k_sif g a b (evT g t e) := by
  rw [evS]
  cases evT g t e with
  | ok k e => cases k <;> rfl
  | exc x e => rfl
  | bad => rfl
theorem es_whl (t b : T) : evS g (.whl t b) e = whlL (evT g t) (evS g b) g.wf e := by rw [evS]
theorem es_for (tg it b : T) : evS g (.sfor tg it b) e = SR.of (evI g it e) fun vxs e => forL tg (fun e1 => sameAt e e1 vxs.1) (evS g b) vxs.2 e := by rw [evS]
@[simp] theorem es_ret (x : T) : evS g (.ret x) e = SR.of (evE g x e) kRet := by rw [evS]
@[simp] theorem es_retN : evS g .retN e = .rt (.val .non) e := by rw [evS]
@[simp] theorem es_rse (c : Nat) (as : T) : evS g (.rse c as) e = SR.of (evA g as e) (kRse g c) := by rw [evS]
@[simp] theorem es_cnt : evS g .cnt e = .ct e := by rw [evS]
@[simp] theorem ev_xis (i : Nat) (cs : List Nat) : evE g (.xis i cs) e = kXis g cs e e[i]? := by rw [evE]
@[simp] theorem es_tri (c : Nat) (ns : List Nat) (b su : T) : evS g (.tri c ns b su) e = triK g c ns su (evS g b e) := by
  rw [evS]
  cases evS g b e <;> rfl
@[simp] theorem es_brk : evS g .brk e = .bk e := by rw [evS]
end
theorem le_lim {n : Nat} (h : n ≤ 1000000) : n ≤ lim := Nat.le_trans h (by decide)
theorem lt_lim {n : Nat} (h : n < 1000000) : n < lim := Nat.lt_of_lt_of_le h (by decide)
section
variable (e : Env) (s : Slot) (v w : PV)
@[simp] theorem live_val : live (.val v) = true := by simp [live]
@[simp] theorem live_lst (xs : List PV) : live (.olst xs) = true := by simp [live]
@[simp] theorem live_dic (xs : List (PV × PV)) : live (.odic xs) = true := by simp [live]
@[simp] theorem live_own (xs : List Slot) : live (.own xs) = false := by simp [live]
@[simp] theorem frz_dic (xs : List (PV × PV)) : frz (.odic xs) = .dic xs := by rw [frz]
@[simp] theorem isOwn_own (xs : List Slot) : isOwn (some (.own xs)) = true := (rfl)
@[simp] theorem isOwn_dead : isOwn (some .dead) = false := (rfl)
@[simp] theorem isOwn_exn (c : Nat) (fs : List (Nat × PV)) : isOwn (some (.exn c fs)) = false := (rfl)
@[simp] theorem isOwn_val (v : PV) : isOwn (some (.val v)) = false := (rfl)
@[simp] theorem isOwn_lst (v : List PV) : isOwn (some (.olst v)) = false := (rfl)
@[simp] theorem isOwn_dic (v : List (PV × PV)) : isOwn (some (.odic v)) = false := (rfl)
@[simp] theorem isOwn_ins (c : Nat) (v : List (Nat × Slot)) : isOwn (some (.oins c v)) = false := (rfl)
@[simp] theorem fitsI_lst (v : List PV) : fitsI (some (.olst v)) = true := (rfl)
@[simp] theorem fitsI_dic (v : List (PV × PV)) : fitsI (some (.odic v)) = true := (rfl)
def ixP (j : Nat) : Nat := ixB + j
theorem getS_own (ss : List Slot) (j : Nat) (r : List Nat) : getS (.own ss) (ixP j :: r) = ss[j]?.bind fun s => getS s r := by
  unfold ixP
  rw [getS, if_pos (Nat.le_add_right _ _)]
  have : ixB + j - ixB = j := by omega
  rw [this]
  cases ss[j]? <;> rfl
theorem setS_own (ss : List Slot) (j : Nat) (r : List Nat) (n s : Slot) (h : ss[j]? = some s) : setS (.own ss) (ixP j :: r) n = .own (ss.set j (setS s r n)) := by
  unfold ixP
  have : ixB + j - ixB = j := by omega
  rw [setS, this, h]
def plxK (i : Nat) (fs : List Nat) (e : Env) : Option Nat → R EV
  | some j => .ok (.pl i (fs ++ [j])) e
  | none => .bad
@[simp] theorem kPlx_eq (i : Nat) (fs : List Nat) (w : EV) : kPlx i fs w e = plxK i fs e (plxO (getP e i fs) (valOf e w)) := by unfold kPlx plxK; split <;> simp_all
@[simp] theorem plxK_some (i : Nat) (fs : List Nat) (j : Nat) : plxK i fs e (some j) = .ok (.pl i (fs ++ [j])) e := (rfl)
@[simp] theorem ownsOf_nil : ownsOf [] = some [] := (rfl)
@[simp] theorem ownsOf_cons (r : List EV) : ownsOf (.sl s :: r) = (ownsOf r).bind fun ss => if live s then some (s :: ss) else none := by
  rw [ownsOf]; cases ownsOf r <;> rfl
def lolK (e : Env) : Option (List Slot) → R EV
  | some ss => if ss.length ≤ lim then .ok (.sl (.own ss)) e else .bad
  | none => .bad
@[simp] theorem kLol_eq (vs : List EV) : kLol vs e = lolK e (ownsOf vs) := by unfold kLol lolK; split <;> simp_all
@[simp] theorem lolK_some (ss : List Slot) (h : ss.length ≤ 1000000) : lolK e (some ss) = .ok (.sl (.own ss)) e := by unfold lolK; exact if_pos (Nat.le_trans h (by decide))
@[simp] theorem live_dead : live .dead = false := by rw [live]
@[simp] theorem live_ins (c : Nat) (fs : List (Nat × Slot)) : live (.oins c fs) = liveF fs := by rw [live]
@[simp] theorem liveF_nil : liveF [] = true := by rw [liveF]
@[simp] theorem liveF_cons (n : Nat) (s : Slot) (r : List (Nat × Slot)) : liveF ((n, s) :: r) = (live s && liveF r) := by rw [liveF]
@[simp] theorem frz_val : frz (.val v) = v := by rw [frz]
@[simp] theorem frz_lst (xs : List PV) : frz (.olst xs) = .lst xs := by rw [frz]
@[simp] theorem frz_ins (c : Nat) (fs : List (Nat × Slot)) : frz (.oins c fs) = .ins c (frzF fs) := by rw [frz]
@[simp] theorem frzF_nil : frzF [] = [] := by rw [frzF]
@[simp] theorem frzF_cons (n : Nat) (s : Slot) (r : List (Nat × Slot)) : frzF ((n, s) :: r) = (n, frz s) :: frzF r := by rw [frzF]
@[simp] theorem getS_nil : getS s [] = some s := by cases s <;> rfl
@[simp] theorem getS_ins (c : Nat) (fs : List (Nat × Slot)) (f : Nat) (r : List Nat) : getS (.oins c fs) (f :: r) = (fldS f fs).bind fun s => getS s r := by
  rw [getS]; cases fldS f fs <;> rfl
@[simp] theorem getS_vins (c : Nat) (fs : List (Nat × PV)) (f : Nat) (r : List Nat) : getS (.val (.ins c fs)) (f :: r) = (fldV f fs).bind fun v => getS (.val v) r := by
  rw [getS]; cases fldV f fs <;> rfl
@[simp] theorem fldS_cons (f n : Nat) (s : Slot) (r : List (Nat × Slot)) : fldS f ((n, s) :: r) = if n = f then some s else fldS f r := by rw [fldS]
@[simp] theorem fldV_cons (f n : Nat) (s : PV) (r : List (Nat × PV)) : fldV f ((n, s) :: r) = if n = f then some s else fldV f r := by rw [fldV]
@[simp] theorem getP_0 (a : Slot) (l : Env) (fs : List Nat) : getP (a :: l) 0 fs = getS a fs := (rfl)
@[simp] theorem getP_s (a : Slot) (l : Env) (i : Nat) (fs : List Nat) : getP (a :: l) (i + 1) fs = getP l i fs := by unfold getP; rw [List.getElem?_cons_succ]
@[simp] theorem setP_0 (a : Slot) (l : Env) (fs : List Nat) (n : Slot) : setP (a :: l) 0 fs n = setS a fs n :: l := (rfl)
@[simp] theorem setP_s (a : Slot) (l : Env) (i : Nat) (fs : List Nat) (n : Slot) : setP (a :: l) (i + 1) fs n = a :: setP l i fs n := by
  unfold setP; rw [List.getElem?_cons_succ]; cases l[i]? <;> rfl
@[simp] theorem setS_nil (n : Slot) : setS s [] n = n := by cases s <;> rfl
@[simp] theorem setS_ins (c : Nat) (fs : List (Nat × Slot)) (f : Nat) (r : List Nat) (n : Slot) : setS (.oins c fs) (f :: r) n = match fldS f fs with
    | some s => .oins c (setF f (setS s r n) fs)
    | none => .oins c fs := by rw [setS] <;> rfl
@[simp] theorem setF_cons (f n : Nat) (s x : Slot) (r : List (Nat × Slot)) : setF f s ((n, x) :: r) = if n = f then (n, s) :: r else (n, x) :: setF f s r := by rw [setF]
@[simp] theorem kMov_eq (i : Nat) : kMov i e = match e[i]? with
    | some (.val v) => .ok (.sl (.val v)) e
    | some s => if live s then .ok (.sl s) (e.set i .dead) else .bad
    | none => .bad := (rfl)
def plcK (i : Nat) (fs : List Nat) (e : Env) : Option Slot → R EV
  | some .dead => .bad
  | some _ => .ok (.pl i fs) e
  | none => .bad
@[simp] theorem kPlc_eq (i : Nat) (fs : List Nat) : kPlc i fs e = plcK i fs e (getP e i fs) := by first | exact (rfl) | (unfold kPlc plcK; split <;> first | rfl | simp_all)
@[simp] theorem plcK_val (i : Nat) (fs : List Nat) : plcK i fs e (some (.val v)) = .ok (.pl i fs) e := (rfl)
@[simp] theorem plcK_lst (i : Nat) (fs : List Nat) (xs : List PV) : plcK i fs e (some (.olst xs)) = .ok (.pl i fs) e := (rfl)
@[simp] theorem plcK_dic (i : Nat) (fs : List Nat) (xs : List (PV × PV)) : plcK i fs e (some (.odic xs)) = .ok (.pl i fs) e := (rfl)
@[simp] theorem plcK_ins (i : Nat) (fs : List Nat) (c : Nat) (xs : List (Nat × Slot)) : plcK i fs e (some (.oins c xs)) = .ok (.pl i fs) e := (rfl)
def gtvK (e : Env) : Option Slot → R EV
  | some (.val v) => .ok (.sl (.val v)) e
  | _ => .bad
@[simp] theorem kGtv_eq (i : Nat) (fs : List Nat) : kGtv i fs e = gtvK e (getP e i fs) := by first | exact (rfl) | (unfold kGtv gtvK; split <;> first | rfl | simp_all)
@[simp] theorem gtvK_val : gtvK e (some (.val v)) = .ok (.sl (.val v)) e := (rfl)
def rdK (e : Env) (i : Nat) (fs : List Nat) : Option Slot → R EV
  | some (.val v) => .ok (.sl (.val v)) e
  | some s => if live s then .ok (.sl (.val (frz s))) (setP e i fs (.val (frz s))) else .bad
  | none => .bad
@[simp] theorem readP_eq (i : Nat) (fs : List Nat) : readP e i fs = rdK e i fs (getP e i fs) := by first | exact (rfl) | (unfold readP rdK; split <;> first | rfl | simp_all)
@[simp] theorem rdK_val (i : Nat) (fs : List Nat) : rdK e i fs (some (.val v)) = .ok (.sl (.val v)) e := (rfl)
@[simp] theorem rdK_lst (i : Nat) (fs : List Nat) (xs : List PV) : rdK e i fs (some (.olst xs)) = .ok (.sl (.val (.lst xs))) (setP e i fs (.val (.lst xs))) := (rfl)
@[simp] theorem rdK_dic (i : Nat) (fs : List Nat) (xs : List (PV × PV)) : rdK e i fs (some (.odic xs)) = .ok (.sl (.val (.dic xs))) (setP e i fs (.val (.dic xs))) := (rfl)
@[simp] theorem rdK_ins (i : Nat) (fs : List Nat) (c : Nat) (xs : List (Nat × Slot)) : rdK e i fs (some (.oins c xs)) = if liveF xs then .ok (.sl (.val (.ins c (frzF xs)))) (setP e i fs (.val (.ins c (frzF xs)))) else .bad := by simp [rdK]
@[simp] theorem kFld_sl (f : Nat) : kFld f (.sl s) e = gtvK e (getS s [f]) := by first | exact (rfl) | (unfold kFld gtvK; split <;> first | rfl | simp_all)
@[simp] theorem valOf_sl : valOf e (.sl s) = if live s then some (frz s) else none := (rfl)
def liveO : Option Slot → Option PV
  | some s => if live s then some (frz s) else none
  | none => none
@[simp] theorem liveO_some : liveO (some s) = if live s then some (frz s) else none := (rfl)
@[simp] theorem valOf_pl (i : Nat) (fs : List Nat) : valOf e (.pl i fs) = liveO (getP e i fs) := by first | exact (rfl) | (unfold valOf liveO; split <;> first | rfl | simp_all)
@[simp] theorem valsOf_nil : valsOf e [] = some [] := by rw [valsOf]
@[simp] theorem valsOf_cons (x : EV) (r : List EV) : valsOf e (x :: r) = (valOf e x).bind fun v => (valsOf e r).bind fun vs => some (v :: vs) := by
  rw [valsOf]; cases valOf e x <;> cases valsOf e r <;> rfl
@[simp] theorem outO_some : outO (some s) e = .ok (.sl s) e := (rfl)
@[simp] theorem outO_none : outO none e = .bad := (rfl)
def k1 (p : P1) (e : Env) : Option PV → R EV
  | some x => outO (op1 p x) e
  | none => .bad
@[simp] theorem kOp1_eq (p : P1) (x : EV) : kOp1 p x e = k1 p e (valOf e x) := by first | exact (rfl) | (unfold kOp1 k1; split <;> first | rfl | simp_all)
@[simp] theorem k1_some (p : P1) : k1 p e (some v) = outO (op1 p v) e := (rfl)
def k2 (p : P2) (e : Env) : Option PV → Option PV → R EV
  | some x, some y => outO (op2 p x y) e
  | _, _ => .bad
@[simp] theorem kOp2_eq (p : P2) (x y : EV) : kOp2 p x y e = k2 p e (valOf e x) (valOf e y) := by first | exact (rfl) | (unfold kOp2 k2; split <;> first | rfl | simp_all)
@[simp] theorem k2_some (p : P2) : k2 p e (some v) (some w) = outO (op2 p v w) e := (rfl)
def tixK (e : Env) : Option PV → Option PV → R EV
  | some x, some y => outO (tixV x y) e
  | _, _ => .bad
@[simp] theorem kTix_eq (x y : EV) : kTix x y e = tixK e (valOf e x) (valOf e y) := by unfold kTix tixK; cases valOf e x <;> cases valOf e y <;> rfl
@[simp] theorem tixK_some : tixK e (some v) (some w) = outO (tixV v w) e := (rfl)
def kc (e : Env) : Option Slot → R Bool
  | some (.val (.bl b)) => .ok b e
  | _ => .bad
@[simp] theorem kc_bl (b : Bool) : kc e (some (.val (.bl b))) = .ok b e := (rfl)
def kcc (p : P2) (e : Env) : Option PV → Option PV → R Bool
  | some x, some y => kc e (op2 p x y)
  | _, _ => .bad
@[simp] theorem kcc_some (p : P2) : kcc p e (some v) (some w) = kc e (op2 p v w) := (rfl)
@[simp] theorem kChn_eq (p : P2) (x y : EV) : kChn p x y e = kcc p e (valOf e x) (valOf e y) := by
  unfold kChn kcc kc; cases valOf e x <;> cases valOf e y <;> (try simp) <;> (try (split <;> simp_all))
def kt (e : Env) : Option PV → R Bool
  | some x => match truV x with
    | some k => .ok k e
    | none => .bad
  | none => .bad
@[simp] theorem kTru_eq (x : EV) : kTru x e = kt e (valOf e x) := by unfold kTru kt; cases valOf e x <;> rfl
@[simp] theorem kt_bl (b : Bool) : kt e (some (.bl b)) = .ok b e := (rfl)
@[simp] theorem kt_int (b : Int) : kt e (some (.int b)) = .ok (b != 0) e := (rfl)
@[simp] theorem kt_non : kt e (some .non) = .ok false e := (rfl)
@[simp] theorem kt_tup (xs : List PV) : kt e (some (.tup xs)) = .ok (!xs.isEmpty) e := (rfl)
@[simp] theorem kt_lst (xs : List PV) : kt e (some (.lst xs)) = .ok (!xs.isEmpty) e := (rfl)
@[simp] theorem kt_xls (xs : List PV) : kt e (some (.xls xs)) = .ok (!xs.isEmpty) e := (rfl)
@[simp] theorem kBol_bl (b : Bool) : kBol (.sl (.val (.bl b))) e = .ok b e := (rfl)
@[simp] theorem upOf_sl : upOf e (.sl s) = if live s then some (frz s) else none := (rfl)
def valO : Option Slot → Option PV
  | some (.val v) => some v
  | _ => none
@[simp] theorem valO_val : valO (some (.val v)) = some v := (rfl)
@[simp] theorem upOf_pl (i : Nat) (fs : List Nat) : upOf e (.pl i fs) = valO (getP e i fs) := by first | exact (rfl) | (unfold upOf valO; split <;> first | rfl | simp_all)
@[simp] theorem upsOf_nil : upsOf e [] = some [] := by rw [upsOf]
@[simp] theorem upsOf_cons (x : EV) (r : List EV) : upsOf e (x :: r) = (upOf e x).bind fun v => (upsOf e r).bind fun vs => some (v :: vs) := by
  rw [upsOf]; cases upOf e x <;> cases upsOf e r <;> rfl
def tupK (e : Env) : Option (List PV) → R EV
  | some xs => if xs.length ≤ lim then .ok (.sl (.val (.tup xs))) e else .bad
  | none => .bad
@[simp] theorem kTup_eq (vs : List EV) : kTup vs e = tupK e (upsOf e vs) := by first | exact (rfl) | (unfold kTup tupK; split <;> first | rfl | simp_all)
@[simp] theorem tupK_some (xs : List PV) (h : xs.length ≤ 1000000) : tupK e (some xs) = .ok (.sl (.val (.tup xs))) e := if_pos (le_lim h)
def lstK (e : Env) : Option (List PV) → R EV
  | some xs => if xs.length ≤ lim then .ok (.sl (.olst xs)) e else .bad
  | none => .bad
@[simp] theorem kLst_eq (vs : List EV) : kLst vs e = lstK e (upsOf e vs) := by first | exact (rfl) | (unfold kLst lstK; split <;> first | rfl | simp_all)
@[simp] theorem lstK_some (xs : List PV) (h : xs.length ≤ 1000000) : lstK e (some xs) = .ok (.sl (.olst xs)) e := if_pos (le_lim h)
@[simp] theorem kPrt_eq (v : EV) : kPrt v e = match valOf e v with
    | some (.int i) => .ok (some i) e
    | _ => .bad := (rfl)
@[simp] theorem argOf_sl : argOf e (.sl s) = if live s then some s else none := (rfl)
def liveS : Option Slot → Option Slot
  | some s => if live s then some s else none
  | none => none
@[simp] theorem liveS_some : liveS (some s) = if live s then some s else none := (rfl)
@[simp] theorem argOf_pl (i : Nat) (fs : List Nat) : argOf e (.pl i fs) = liveS (getP e i fs) := by first | exact (rfl) | (unfold argOf liveS; split <;> first | rfl | simp_all)
@[simp] theorem argsOf_nil : argsOf e [] = some [] := by rw [argsOf]
@[simp] theorem argsOf_cons (x : EV) (r : List EV) : argsOf e (x :: r) = (argOf e x).bind fun v => (argsOf e r).bind fun vs => some (v :: vs) := by
  rw [argsOf]; cases argOf e x <;> cases argsOf e r <;> rfl
@[simp] theorem owned_val : owned (.val v) = false := (rfl)
@[simp] theorem owned_lst (xs : List PV) : owned (.olst xs) = true := (rfl)
@[simp] theorem owned_ins (c : Nat) (xs : List (Nat × Slot)) : owned (.oins c xs) = true := (rfl)
def ownO (i : Nat) (fs : List Nat) : Option Slot → Option (Nat × List Nat)
  | some s => if owned s then some (i, fs) else none
  | none => none
@[simp] theorem ownO_some (i : Nat) (fs : List Nat) : ownO i fs (some s) = if owned s then some (i, fs) else none := (rfl)
@[simp] theorem ownP_pl (i : Nat) (fs : List Nat) : ownP e (.pl i fs) = ownO i fs (getP e i fs) := by first | exact (rfl) | (unfold ownP ownO; split <;> first | rfl | simp_all)
@[simp] theorem ownP_sl : ownP e (.sl s) = none := (rfl)
@[simp] theorem roots_nil : roots [] = [] := by rw [roots]
@[simp] theorem roots_none (r : List (Option (Nat × List Nat))) : roots (none :: r) = roots r := by rw [roots]
@[simp] theorem roots_some (i : Nat) (fs : List Nat) (r : List (Option (Nat × List Nat))) : roots (some (i, fs) :: r) = i :: roots r := by rw [roots]
@[simp] theorem rootsOk_eq (as : List EV) : rootsOk e as = decide (roots (as.map (ownP e))).Nodup := (rfl)
@[simp] theorem backQ_nil (ss : List Slot) : backQ e [] ss = e := by cases ss <;> rfl
@[simp] theorem backQ_none (r : List (Option (Nat × List Nat))) (ss : List Slot) : backQ e (none :: r) (s :: ss) = backQ e r ss := by rw [backQ]
@[simp] theorem backQ_some (i : Nat) (fs : List Nat) (r : List (Option (Nat × List Nat))) (ss : List Slot) : backQ e (some (i, fs) :: r) (s :: ss) = backQ (setP e i fs s) r ss := by rw [backQ]
@[simp] theorem backP_eq (xs : List EV) (ss : List Slot) : backP e xs ss = backQ e (xs.map (ownP e)) ss := (rfl)
def callE (e : Env) (as : List EV) : CR → R EV
  | .ok s bs => if live s then .ok (.sl s) (backP e as bs) else .bad
  | .exc x bs => .exc x (backP e as bs)
  | .bad => .bad
@[simp] theorem callE_ok (as : List EV) (bs : List Slot) : callE e as (.ok s bs) = if live s then .ok (.sl s) (backP e as bs) else .bad := (rfl)
@[simp] theorem callE_exc (as : List EV) (x : Exn) (bs : List Slot) : callE e as (.exc x bs) = .exc x (backP e as bs) := (rfl)
def callO (sem : Nat → List Slot → CR) (f : Nat) (as : List EV) (e : Env) : Option (List Slot) → R EV
  | some ss => if rootsOk e as then callE e as (sem f ss) else .bad
  | none => .bad
@[simp] theorem callO_some (sem : Nat → List Slot → CR) (f : Nat) (as : List EV) (ss : List Slot) : callO sem f as e (some ss) = if rootsOk e as then callE e as (sem f ss) else .bad := (rfl)
@[simp] theorem callR_eq (sem : Nat → List Slot → CR) (f : Nat) (as : List EV) : callR sem f as e = callO sem f as e (argsOf e as) := by
  unfold callR callO callE
  cases argsOf e as with
  | none => rfl
  | some ss =>
    first
      | (dsimp only; done)
      | (dsimp only; split <;> first | rfl | (cases sem f ss <;> rfl))
def makE (e : Env) (as : List EV) : CR → R EV
  | .ok (.val .non) (o :: bs) => if live o then .ok (.sl o) (backP e as bs) else .bad
  | .exc x (_ :: bs) => .exc x (backP e as bs)
  | _ => .bad
@[simp] theorem makE_ok (as : List EV) (o : Slot) (bs : List Slot) : makE e as (.ok (.val .non) (o :: bs)) = if live o then .ok (.sl o) (backP e as bs) else .bad := (rfl)
@[simp] theorem makE_exc (as : List EV) (x : Exn) (o : Slot) (bs : List Slot) : makE e as (.exc x (o :: bs)) = .exc x (backP e as bs) := (rfl)
def makO (g : Gl) (c : Nat) (as : List EV) (e : Env) : Option Nat → Option (List Slot) → R EV
  | some f, some ss => if rootsOk e as then makE e as (g.sem f (.oins c [] :: ss)) else .bad
  | _, _ => .bad
@[simp] theorem makO_some (g : Gl) (c f : Nat) (as : List EV) (ss : List Slot) : makO g c as e (some f) (some ss) = if rootsOk e as then makE e as (g.sem f (.oins c [] :: ss)) else .bad := (rfl)
@[simp] theorem makR_eq (g : Gl) (c : Nat) (as : List EV) : makR g c as e = makO g c as e (g.ini c) (argsOf e as) := by
  unfold makR makO makE
  cases g.ini c with
  | none => rfl
  | some f =>
    cases argsOf e as with
    | none => rfl
    | some ss =>
      first
        | (dsimp only; done)
        | (dsimp only
           split
           · rcases g.sem f (.oins c [] :: ss) with ⟨s, bs⟩ | ⟨x, bs⟩ | _
             · rcases s with _ | v | _ | _ | _ <;> first | rfl | (cases v <;> cases bs <;> rfl)
             · cases bs <;> rfl
             · rfl
           · rfl)
@[simp] theorem clsOf_ins (c : Nat) (fs : List (Nat × Slot)) : clsOf (some (.oins c fs)) = some c := (rfl)
@[simp] theorem clsOf_vins (c : Nat) (fs : List (Nat × PV)) : clsOf (some (.val (.ins c fs))) = some c := (rfl)
@[simp] theorem mthO_eq (g : Gl) (m : Nat) (x : EV) : mthO g m x e = match clsOf (argOf e x) with
    | some c => match g.met c m with
      | some f => .ok f e
      | none => .bad
    | none => .bad := (rfl)
def mutK (m : Mut) (i : Nat) (fs : List Nat) (e : Env) : Option Slot → Option (List PV) → R EV
  | some s, some xs => match mutS m s xs with
    | some (r, s') => .ok (.sl r) (setP e i fs s')
    | none => .bad
  | _, _ => .bad
@[simp] theorem kMut_eq (m : Mut) (i : Nat) (fs : List Nat) (vs : List EV) : kMut m i fs vs e = mutK m i fs e (getP e i fs) (argV m e vs) := by
  unfold kMut mutK; cases getP e i fs <;> cases argV m e vs <;> rfl
@[simp] theorem argV_app (vs : List EV) : argV .append e vs = upsOf e vs := (rfl)
@[simp] theorem argV_pop (vs : List EV) : argV .pop e vs = valsOf e vs := (rfl)
@[simp] theorem argV_popAt (vs : List EV) : argV .popAt e vs = valsOf e vs := (rfl)
@[simp] theorem argV_ext (vs : List EV) : argV .extend e vs = valsOf e vs := (rfl)
@[simp] theorem fits_app (xs : List PV) : fits .append (some (.olst xs)) = true := (rfl)
@[simp] theorem fits_pop (xs : List PV) : fits .pop (some (.olst xs)) = true := (rfl)
@[simp] theorem fits_popAt (xs : List PV) : fits .popAt (some (.olst xs)) = true := (rfl)
@[simp] theorem fits_ext (xs : List PV) : fits .extend (some (.olst xs)) = true := (rfl)
@[simp] theorem mut_app (i : Nat) (fs : List Nat) (xs : List PV) (h : xs.length < 1000000) : mutK .append i fs e (some (.olst xs)) (some [v]) = .ok (.sl (.val .non)) (setP e i fs (.olst (xs ++ [v]))) := by
  unfold mutK; dsimp only; rw [mutS, if_pos (lt_lim h)]
@[simp] theorem mut_ext (i : Nat) (fs : List Nat) (xs ys : List PV) (h : xs.length + ys.length ≤ 1000000) : mutK .extend i fs e (some (.olst xs)) (some [.lst ys]) = .ok (.sl (.val .non)) (setP e i fs (.olst (xs ++ ys))) := by
  unfold mutK; dsimp only; rw [mutS, if_pos (le_lim h)]
@[simp] theorem mut_pop (i : Nat) (fs : List Nat) (xs : List PV) : mutK .pop i fs e (some (.olst xs)) (some []) = match xs.getLast? with
    | some v => .ok (.sl (.val v)) (setP e i fs (.olst xs.dropLast))
    | none => .bad := by
  unfold mutK; dsimp only; rw [mutS]; cases xs.getLast? <;> rfl
theorem ixN_nn {n : Nat} {i : Int} (h0 : 0 ≤ i) (h1 : i < n) : L2.ixN n i = some i.toNat := by
  unfold L2.ixN; rw [if_pos h0, if_pos h1]
def popR (i : Nat) (fs : List Nat) (e : Env) (xs : List PV) (j : Nat) : Option PV → R EV
  | some v => .ok (.sl (.val v)) (setP e i fs (.olst (xs.eraseIdx j)))
  | none => .bad
@[simp] theorem popR_some (i : Nat) (fs : List Nat) (xs : List PV) (j : Nat) : popR i fs e xs j (some v) = .ok (.sl (.val v)) (setP e i fs (.olst (xs.eraseIdx j))) := (rfl)
@[simp] theorem mut_popAt (i : Nat) (fs : List Nat) (xs : List PV) (k : Int) (h0 : 0 ≤ k) (h1 : k < xs.length) (h2 : k < 1000000) : mutK .popAt i fs e (some (.olst xs)) (some [.int k]) = popR i fs e xs k.toNat xs[k.toNat]? := by
  unfold mutK; dsimp only; rw [mutS, ixN_nn h0 h1]
  dsimp only
  cases xs[k.toNat]? with
  | none => rfl
  | some v => dsimp only; rw [if_pos ⟨by omega, by omega⟩]; rfl
def sm (n : Int) : Prop := n ≤ 1000000 ∧ -n ≤ 1000000
def sm64 (n : Int) : Prop := n < 18446744073709551616 ∧ -n < 18446744073709551616
theorem rngOf_1 (n : Int) (h : sm n) : rngOf [.int n] = some (rngV 0 n) := if_pos (by unfold big; unfold sm at h; omega)
theorem rngOf_2 (a b : Int) (h : sm a) (h2 : sm b) : rngOf [.int a, .int b] = some (rngV a b) := if_pos (by unfold big; unfold sm at *; omega)
theorem rngV_le (a b : Int) (h : sm a) (h2 : sm b) : (rngV a b).length ≤ lim := by
  unfold rngV sm at *
  rw [List.length_map, List.length_range]
  exact Nat.le_trans (show (b - a).toNat ≤ 2000000 by omega) (by decide)
def lrngK (e : Env) : Option (List PV) → R EV
  | some xs => match rngOf xs with
    | some ys => if ys.length ≤ lim then .ok (.sl (.olst ys)) e else .bad
    | none => .bad
  | none => .bad
@[simp] theorem lrngK_1 (n : Int) (h : sm n) : lrngK e (some [.int n]) = .ok (.sl (.olst (rngV 0 n))) e := by
  unfold lrngK; dsimp only; rw [rngOf_1 n h]; dsimp only; rw [if_pos (rngV_le 0 n (by unfold sm; omega) h)]
@[simp] theorem lrngK_2 (a b : Int) (h : sm a) (h2 : sm b) : lrngK e (some [.int a, .int b]) = .ok (.sl (.olst (rngV a b))) e := by
  unfold lrngK; dsimp only; rw [rngOf_2 a b h h2]; dsimp only; rw [if_pos (rngV_le a b h h2)]
def trngK (e : Env) : Option (List PV) → R EV
  | some xs => match rngOf xs with
    | some ys => if ys.length ≤ lim then .ok (.sl (.val (.tup ys))) e else .bad
    | none => .bad
  | none => .bad
@[simp] theorem trngK_1 (n : Int) (h : sm n) : trngK e (some [.int n]) = .ok (.sl (.val (.tup (rngV 0 n)))) e := by
  unfold trngK; dsimp only; rw [rngOf_1 n h]; dsimp only; rw [if_pos (rngV_le 0 n (by unfold sm; omega) h)]
@[simp] theorem kTrng_eq (vs : List EV) : kTrng vs e = trngK e (valsOf e vs) := by
  unfold kTrng trngK; cases valsOf e vs with
  | none => rfl
  | some xs => first | rfl | (dsimp only; cases rngOf xs <;> rfl)
def eqOkK : Option Nat → Option Slot → Bool
  | some c, some t => decide (clsOf (some t) = some c) || (match t with
    | .val (.tup _) => true
    | _ => false)
  | _, _ => false
@[simp] theorem eqOkK_t (c : Nat) (ys : List PV) : eqOkK (some c) (some (.val (.tup ys))) = true := by simp [eqOkK]
@[simp] theorem eqOkK_o (c d : Nat) (fs : List (Nat × Slot)) : eqOkK (some c) (some (.oins d fs)) = decide (d = c) := by simp [eqOkK, clsOf]
@[simp] theorem eqOkK_i (c d : Nat) (fs : List (Nat × PV)) : eqOkK (some c) (some (.val (.ins d fs))) = decide (d = c) := by simp [eqOkK, clsOf]
def ieqK2 (g : Gl) (m : Nat) (v u : EV) (e : Env) : Bool → Option Nat → R EV
  | true, some c => match g.met c m with
    | some f => callR g.sem f [v, u] e
    | none => .bad
  | _, _ => .bad
@[simp] theorem ieqK2_t (g : Gl) (m : Nat) (v u : EV) (e : Env) (c : Nat) : ieqK2 g m v u e true (some c) = match g.met c m with
    | some f => callR g.sem f [v, u] e
    | none => .bad := (rfl)
@[simp] theorem kIeq_eq (g : Gl) (m : Nat) (v u : EV) : kIeq g m v u e = ieqK2 g m v u e (eqOkK (clsOf (argOf e v)) (argOf e u)) (clsOf (argOf e v)) := by
  unfold kIeq
  have : eqOk e v u = eqOkK (clsOf (argOf e v)) (argOf e u) := by unfold eqOk eqOkK; rfl
  rw [this]
  cases eqOkK (clsOf (argOf e v)) (argOf e u) with
  | false => rfl
  | true =>
    rw [if_pos rfl]
    unfold mthO
    cases clsOf (argOf e v) with
    | none => rfl
    | some c =>
      show (match g.met c m with | some f => R.ok f e | none => .bad).bind _ = (match g.met c m with | some f => callR g.sem f [v, u] e | none => .bad)
      cases g.met c m <;> rfl
@[simp] theorem kLrng_eq (vs : List EV) : kLrng vs e = lrngK e (valsOf e vs) := by
  unfold kLrng lrngK; cases valsOf e vs with
  | none => rfl
  | some xs => first | (dsimp only; done) | (dsimp only; cases rngOf xs <;> rfl)
@[simp] theorem itemsP_tup (xs : List PV) : itemsP (.tup xs) = some xs := (rfl)
@[simp] theorem itemsP_lst (xs : List PV) : itemsP (.lst xs) = some xs := (rfl)
@[simp] theorem itemsP_xls (xs : List PV) : itemsP (.xls xs) = some xs := (rfl)
def isqK (e : Env) : Option (EV × PV) → R (EV × List PV)
  | some vp => match itemsP vp.2 with
    | some xs => .ok (vp.1, xs) e
    | none => .bad
  | none => .bad
@[simp] theorem isqK_some (a : EV) (p : PV) : isqK e (some (a, p)) = match itemsP p with
    | some xs => .ok (a, xs) e
    | none => .bad := (rfl)
@[simp] theorem kIsq_eq (x : EV) : kIsq x e = isqK e (walkOf e x) := by unfold kIsq isqK; cases walkOf e x <;> rfl
@[simp] theorem walkOf_pl0 (i : Nat) : walkOf e (.pl i []) = (valOf e (.pl i [])).map fun p => (.pl i [], p) := (rfl)
def wk (s : Option Slot) : Option (EV × PV) := match s with
  | some (.val v) => some (.sl (.val v), v)
  | _ => none
@[simp] theorem wk_val : wk (some (.val v)) = some (.sl (.val v), v) := (rfl)
@[simp] theorem walkOf_plf (i f : Nat) (fs : List Nat) : walkOf e (.pl i (f :: fs)) = wk (getP e i (f :: fs)) := by first | exact (rfl) | (unfold walkOf wk; split <;> first | rfl | simp_all)
@[simp] theorem walkOf_sl : walkOf e (.sl s) = (valOf e (.sl s)).map fun p => (.sl s, p) := (rfl)
def rngK (e : Env) : Option (List PV) → R (EV × List PV)
  | some xs => match rngOf xs with
    | some ys => .ok (.sl (.val .non), ys) e
    | none => .bad
  | none => .bad
@[simp] theorem rngK_1 (n : Int) (h : sm n) : rngK e (some [.int n]) = .ok (.sl (.val .non), rngV 0 n) e := by
  unfold rngK; dsimp only; rw [rngOf_1 n h]
@[simp] theorem rngK_2 (a b : Int) (h : sm a) (h2 : sm b) : rngK e (some [.int a, .int b]) = .ok (.sl (.val .non), rngV a b) e := by
  unfold rngK; dsimp only; rw [rngOf_2 a b h h2]
@[simp] theorem kRng_eq (vs : List EV) : kRng vs e = rngK e (valsOf e vs) := by
  unfold kRng rngK; cases valsOf e vs with
  | none => rfl
  | some xs => first | (dsimp only; done) | (dsimp only; cases rngOf xs <;> rfl)
def rng3K (e : Env) : Option (List PV) → R (EV × List PV)
  | some xs => match rng3Of xs with
    | some ys => .ok (.sl (.val .non), ys) e
    | none => .bad
  | none => .bad
@[simp] theorem kRng3_eq (vs : List EV) : kRng3 vs e = rng3K e (valsOf e vs) := by
  unfold kRng3 rng3K; cases valsOf e vs with
  | none => rfl
  | some xs => first | (dsimp only; done) | (dsimp only; cases rng3Of xs <;> rfl)
@[simp] theorem kAsg_nm (i : Nat) : kAsg (.tnm i) (.sl s) e = if live s || isOwn (some s) then .nx (e.set i s) else .bad := by
  unfold kAsg
  by_cases h : live s = true
  · simp [h]
  · cases s <;> simp_all
def asgK : Option Env → SR
  | some e' => .nx e'
  | none => .bad
@[simp] theorem asgK_some : asgK (some e) = .nx e := (rfl)
@[simp] theorem kAsg_tp (ts : T) : kAsg (.ttp ts) (.sl s) e = if live s then asgK (asgT (.ttp ts) (frz s) e) else .bad := by
  unfold kAsg
  by_cases h : live s = true
  · dsimp only
    rw [if_pos h, if_pos h]
    cases z : asgT (.ttp ts) (frz s) e <;> rfl
  · dsimp only
    rw [if_neg h, if_neg h]
    cases s <;> rfl
@[simp] theorem asgT_nm (i : Nat) : asgT (.tnm i) v e = some (e.set i (.val v)) := by rw [asgT]
@[simp] theorem asgT_tp (ts : T) (xs : List PV) : asgT (.ttp ts) (.tup xs) e = asgT.asgTs ts xs e := by rw [asgT]
@[simp] theorem asgTs_nil : asgT.asgTs .nil [] e = some e := by rw [asgT.asgTs]
@[simp] theorem asgTs_cons (t r : T) (x : PV) (xs : List PV) : asgT.asgTs (.cons t r) (x :: xs) e = (asgT t x e).bind fun e' => asgT.asgTs r xs e' := by
  rw [asgT.asgTs]; cases asgT t x e <;> rfl
@[simp] theorem sameAt_sl (e0 : Env) : sameAt e0 e (.sl s) = true := (rfl)
@[simp] theorem sameAt_pl (e0 : Env) (i : Nat) (fs : List Nat) : sameAt e0 e (.pl i fs) = decide (getP e i fs = getP e0 i fs) := (rfl)
def fsetK (g : Gl) (i : Nat) (fs : List Nat) (f : Nat) (s : Slot) (e : Env) : Option Slot → SR
  | some (.oins c as) => if live s && g.att c f && decide (as.length < 500) then .nx (setP e i fs (.oins c (putA f s as))) else .bad
  | _ => .bad
@[simp] theorem kFset_sl (g : Gl) (i : Nat) (fs : List Nat) (f : Nat) : kFset g i fs f (.sl s) e = fsetK g i fs f s e (getP e i fs) := by first | exact (rfl) | (unfold kFset fsetK; split <;> first | rfl | simp_all)
@[simp] theorem fsetK_ins (g : Gl) (i : Nat) (fs : List Nat) (f c : Nat) (as : List (Nat × Slot)) : fsetK g i fs f s e (some (.oins c as)) = if live s && g.att c f && decide (as.length < 500) then .nx (setP e i fs (.oins c (putA f s as))) else .bad := (rfl)
@[simp] theorem putA_nil (f : Nat) : putA f s [] = [(f, s)] := by rw [putA]
@[simp] theorem putA_cons (f n : Nat) (x : Slot) (r : List (Nat × Slot)) : putA f s ((n, x) :: r) = if n = f then (n, s) :: r else (n, x) :: putA f s r := by rw [putA]
theorem plxO_own (ss : List Slot) (z : Int) (h0 : 0 ≤ z) (h1 : z < ss.length) : plxO (some (.own ss)) (some (.int z)) = some (ixP z.toNat) := by
  have h2 : z.toNat < ss.length := by omega
  unfold plxO
  dsimp only
  rw [ixN_nn h0 h1]
  dsimp only
  rw [List.getElem?_eq_getElem h2]
  rfl
def isetK (i : Nat) (fs : List Nat) (e : Env) : Option PV → Option PV → Option Slot → SR
  | some y, some (.int z), some (.olst xs) => match L2.ixN xs.length z with
    | some j => .nx (setP e i fs (.olst (xs.set j y)))
    | none => .bad
  | some y, some k, some (.odic kvs) => if dKeyOk kvs k && decide (kvs.length < lim) then .nx (setP e i fs (.odic (dPut kvs k y))) else .bad
  | _, _, _ => .bad
@[simp] theorem isetK_dic (i : Nat) (fs : List Nat) (y k : PV) (kvs : List (PV × PV)) (h1 : dKeyOk kvs k = true) (h2 : kvs.length < 1000000) : isetK i fs e (some y) (some k) (some (.odic kvs)) = .nx (setP e i fs (.odic (dPut kvs k y))) := by
  have : isetK i fs e (some y) (some k) (some (.odic kvs)) = if dKeyOk kvs k && decide (kvs.length < lim) then .nx (setP e i fs (.odic (dPut kvs k y))) else .bad := by cases k <;> rfl
  rw [this, h1, Bool.true_and, decide_eq_true (Nat.lt_trans h2 (by decide))]
  rfl
@[simp] theorem kIset_eq (i : Nat) (fs : List Nat) (x y : EV) : kIset i fs x y e = isetK i fs e (upOf e x) (valOf e y) (getP e i fs) := by first | exact (rfl) | (unfold kIset isetK; split <;> first | rfl | simp_all)
@[simp] theorem isetK_some (i : Nat) (fs : List Nat) (y : PV) (z : Int) (xs : List PV) (h0 : 0 ≤ z) (h1 : z < xs.length) : isetK i fs e (some y) (some (.int z)) (some (.olst xs)) = .nx (setP e i fs (.olst (xs.set z.toNat y))) := by
  unfold isetK; dsimp only; rw [ixN_nn h0 h1]
@[simp] theorem kRet_sl : kRet (.sl s) e = if live s then .rt s e else .bad := (rfl)
def augO (i : Nat) (e : Env) : Option Slot → SR
  | some (.val (.int z)) => .nx (e.set i (.val (.int z)))
  | _ => .bad
@[simp] theorem augO_int (i : Nat) (z : Int) : augO i e (some (.val (.int z))) = .nx (e.set i (.val (.int z))) := (rfl)
def augV (i : Nat) (p : P2) (e : Env) (v : PV) : Option PV → SR
  | some y => augO i e (op2 p v y)
  | none => .bad
@[simp] theorem augV_some (i : Nat) (p : P2) (y : PV) : augV i p e v (some y) = augO i e (op2 p v y) := (rfl)
@[simp] theorem kAug_eq (i : Nat) (p : P2) (x : EV) : kAug i p v x e = augV i p e v (valOf e x) := by
  unfold kAug augV augO; cases valOf e x with
  | none => rfl
  | some y => first | (dsimp only; done) | (dsimp only; split <;> simp_all)
end
def fin : List Bool → List Slot → SR → CR
  | m, as, .rt s e => .ok s (backs m as e)
  | m, as, .nx e => .ok (.val .non) (backs m as e)
  | m, as, .exc x e => .exc x (backs m as e)
  | _, _, _ => .bad
where backs : List Bool → List Slot → List Slot → List Slot
  | b :: m, a :: as, e => (bif b then e.headD .dead else oldS a) :: backs m as e.tail
  | _, _, _ => []
@[simp] theorem fin_rt (m : List Bool) (as : List Slot) (s : Slot) (e : Env) : fin m as (.rt s e) = .ok s (fin.backs m as e) := (rfl)
@[simp] theorem fin_nx (m : List Bool) (as : List Slot) (e : Env) : fin m as (.nx e) = .ok (.val .non) (fin.backs m as e) := (rfl)
@[simp] theorem fin_exc (m : List Bool) (as : List Slot) (x : Exn) (e : Env) : fin m as (.exc x e) = .exc x (fin.backs m as e) := (rfl)
@[simp] theorem fin_bad (m : List Bool) (as : List Slot) : fin m as .bad = .bad := (rfl)
theorem fin_ite (c : Prop) [Decidable c] (m : List Bool) (as : List Slot) (a b : SR) : fin m as (if c then a else b) = if c then fin m as a else fin m as b := by split <;> rfl
@[simp] theorem backs_cons (b : Bool) (m : List Bool) (a x : Slot) (as e : List Slot) : fin.backs (b :: m) (a :: as) (x :: e) = (bif b then x else oldS a) :: fin.backs m as e := (rfl)
@[simp] theorem backs_nil (as e : List Slot) : fin.backs [] as e = [] := (rfl)
@[simp] theorem oldS_val (v : PV) : oldS (.val v) = .val v := (rfl)
def noStos (b : T) : Nat → Nat → List Bool
  | _, 0 => []
  | i, n + 1 => noSto i b :: noStos b (i + 1) n
theorem backs_eq (b : T) (e : Env) : ∀ (as : List Slot) (i : Nat), argsBack b e i as = fin.backs (noStos b i as.length) as (e.drop i)
  | [], i => by simp [argsBack, noStos]
  | a :: as, i => by
    rw [argsBack, List.length_cons, noStos, backs_eq b e as (i + 1)]
    show _ = (bif noSto i b then (e.drop i).headD .dead else oldS a) :: fin.backs _ as (e.drop i).tail
    rw [List.tail_drop]
    congr 1
    cases noSto i b
    · rfl
    · simp only [if_true, cond_true]
      rw [List.getD_eq_getElem?_getD, List.headD_eq_head?_getD, List.head?_drop]
theorem sem_run {t : Tab} {f n np ns : Nat} {b : T} {m : List Bool} (h : t.fds[f]? = some ⟨np, ns, b⟩) (hm : noStos b 0 np = m) (as : List Slot) (hl : as.length = np) : sem t (n + 1) f as = fin m as (evS (t.gl (sem t n)) b (as ++ List.replicate (ns - np) .dead)) := by
  rw [sem, h]
  dsimp only
  unfold runF
  rw [if_pos hl]
  subst hl
  have z : ∀ e : Env, argsBack b e 0 as = fin.backs m as e := fun e => by rw [backs_eq b e as 0, hm, List.drop_zero]
  dsimp only
  cases evS (t.gl (sem t n)) b (as ++ List.replicate (ns - as.length) .dead) <;> simp only [fin, z]
end RF
set_option maxHeartbeats 400000
namespace RF
open PySem
def okN : Nat → PV → Bool
  | _, .non => true
  | _, .bl _ => true
  | _, .int _ => true
  | _, .str x => PyData.strOk x
  | 0, _ => false
  | n + 1, .tup xs => xs.all (okN n)
  | n + 1, .lst xs => xs.all (okN n)
  | _, _ => false
theorem canAll (n : Nat) (h : ∀ v, okN n v = (PyData.canLay0 (toD v) && decide ((toD v).depth ≤ n))) : ∀ xs : List PV, xs.all (okN n) = (PyData.canLayAll0 (toDs xs) && decide (PyData.depthAll (toDs xs) ≤ n))
  | [] => by simp [toDs, PyData.canLayAll0, PyData.depthAll]
  | x :: r => by
    simp only [toDs, PyData.canLayAll0, PyData.depthAll, List.all_cons, canAll n h r, h x]
    rw [Bool.eq_iff_iff]
    simp only [Bool.and_eq_true, decide_eq_true_eq, Nat.max_le]
    constructor
    · rintro ⟨⟨a, b⟩, c, d⟩; exact ⟨⟨a, c⟩, b, d⟩
    · rintro ⟨⟨a, c⟩, b, d⟩; exact ⟨⟨a, b⟩, c, d⟩
theorem okN_eq : ∀ (n : Nat) (v : PV), okN n v = (PyData.canLay0 (toD v) && decide ((toD v).depth ≤ n))
  | n, .non => by cases n <;> simp [okN, toD, PyData.canLay0, PyData.depth]
  | n, .bl _ => by cases n <;> simp [okN, toD, PyData.canLay0, PyData.depth]
  | n, .int _ => by cases n <;> simp [okN, toD, PyData.canLay0, PyData.depth]
  | n, .str _ => by cases n <;> simp [okN, toD, PyData.canLay0, PyData.depth]
  | 0, .tup _ => by simp [okN, toD, PyData.canLay0, PyData.depth]
  | 0, .lst _ => by simp [okN, toD, PyData.canLay0, PyData.depth]
  | n + 1, .tup xs => by
    simp only [okN, toD, PyData.canLay0, PyData.depth]
    rw [canAll n (okN_eq n) xs, Bool.eq_iff_iff]
    simp only [Bool.and_eq_true, decide_eq_true_eq]
    constructor
    · rintro ⟨a, b⟩; exact ⟨a, by omega⟩
    · rintro ⟨a, b⟩; exact ⟨a, by omega⟩
  | n + 1, .lst xs => by
    simp only [okN, toD, PyData.canLay0, PyData.depth]
    rw [canAll n (okN_eq n) xs, Bool.eq_iff_iff]
    simp only [Bool.and_eq_true, decide_eq_true_eq]
    constructor
    · rintro ⟨a, b⟩; exact ⟨a, by omega⟩
    · rintro ⟨a, b⟩; exact ⟨a, by omega⟩
  | n, .xls _ => by cases n <;> simp [okN, toD, PyData.canLay0]
  | n, .dic _ => by cases n <;> simp [okN, toD, PyData.canLay0]
  | n, .ins _ _ => by cases n <;> simp [okN, toD, PyData.canLay0]
@[simp] theorem okD_eq (v : PV) : okD v = okN 64 v := by rw [okN_eq]; rfl
@[simp] theorem okN_non (n : Nat) : okN n .non = true := by cases n <;> rfl
@[simp] theorem okN_bl (n : Nat) (b : Bool) : okN n (.bl b) = true := by cases n <;> rfl
@[simp] theorem okN_int (n : Nat) (b : Int) : okN n (.int b) = true := by cases n <;> rfl
@[simp] theorem okN_str (n : Nat) (b : Str) : okN n (.str b) = PyData.strOk b := by cases n <;> rfl
@[simp] theorem okN_tup (n : Nat) (xs : List PV) : okN (n + 1) (.tup xs) = xs.all (okN n) := (rfl)
@[simp] theorem okN_lst (n : Nat) (xs : List PV) : okN (n + 1) (.lst xs) = xs.all (okN n) := (rfl)
theorem okN_mono {n : Nat} {v : PV} (h : okN n v = true) {m : Nat} (hm : n ≤ m) : okN m v = true := by
  rw [okN_eq] at *
  simp only [Bool.and_eq_true, decide_eq_true_eq] at *
  exact ⟨h.1, Nat.le_trans h.2 hm⟩
def eqvL : List PV → List PV → Bool
  | [], [] => true
  | x :: xs, y :: ys => eqv x y && eqvL xs ys
  | _, _ => false
theorem eqvL_eq : ∀ xs ys : List PV, PyData.eqvAll (toDs xs) (toDs ys) = eqvL xs ys
  | [], [] => by simp [toDs, PyData.eqvAll, eqvL]
  | [], _ :: _ => by simp [toDs, PyData.eqvAll, eqvL]
  | _ :: _, [] => by simp [toDs, PyData.eqvAll, eqvL]
  | x :: xs, y :: ys => by simp only [toDs, PyData.eqvAll, eqvL, eqvL_eq xs ys, eqv]
section
variable (a b : Int) (k q : Bool) (x y : Str) (xs ys : List PV)
@[simp] theorem eqv_ii : eqv (.int a) (.int b) = decide (a = b) := by simp [eqv, toD, PyData.eqv]; rfl
@[simp] theorem eqv_ss : eqv (.str x) (.str y) = (x == y) := by simp [eqv, toD, PyData.eqv]
@[simp] theorem eqv_bb : eqv (.bl k) (.bl q) = (k == q) := by simp [eqv, toD, PyData.eqv]
@[simp] theorem eqv_bi : eqv (.bl k) (.int b) = decide ((if k then 1 else 0) = b) := by simp [eqv, toD, PyData.eqv]; rfl
@[simp] theorem eqv_ib : eqv (.int a) (.bl k) = decide (a = (if k then 1 else 0)) := by simp [eqv, toD, PyData.eqv]; rfl
@[simp] theorem eqv_nn : eqv .non .non = true := by simp [eqv, toD, PyData.eqv]
@[simp] theorem eqv_tt : eqv (.tup xs) (.tup ys) = eqvL xs ys := by simp [eqv, toD, PyData.eqv, eqvL_eq]
@[simp] theorem eqv_ll : eqv (.lst xs) (.lst ys) = eqvL xs ys := by simp [eqv, toD, PyData.eqv, eqvL_eq]
@[simp] theorem eqv_ni : eqv .non (.int b) = false := by simp [eqv, toD, PyData.eqv]
@[simp] theorem eqv_nb : eqv .non (.bl k) = false := by simp [eqv, toD, PyData.eqv]
@[simp] theorem eqv_ns : eqv .non (.str y) = false := by simp [eqv, toD, PyData.eqv]
@[simp] theorem eqv_nt : eqv .non (.tup ys) = false := by simp [eqv, toD, PyData.eqv]
@[simp] theorem eqv_nl : eqv .non (.lst ys) = false := by simp [eqv, toD, PyData.eqv]
@[simp] theorem eqv_in : eqv (.int b) .non = false := by simp [eqv, toD, PyData.eqv]
@[simp] theorem eqv_bn : eqv (.bl k) .non = false := by simp [eqv, toD, PyData.eqv]
@[simp] theorem eqv_sn : eqv (.str y) .non = false := by simp [eqv, toD, PyData.eqv]
@[simp] theorem eqv_tn : eqv (.tup ys) .non = false := by simp [eqv, toD, PyData.eqv]
@[simp] theorem eqv_ln : eqv (.lst ys) .non = false := by simp [eqv, toD, PyData.eqv]
@[simp] theorem eqv_is : eqv (.int b) (.str y) = false := by simp [eqv, toD, PyData.eqv]
@[simp] theorem eqv_it : eqv (.int b) (.tup ys) = false := by simp [eqv, toD, PyData.eqv]
@[simp] theorem eqv_il : eqv (.int b) (.lst ys) = false := by simp [eqv, toD, PyData.eqv]
@[simp] theorem eqv_bs : eqv (.bl k) (.str y) = false := by simp [eqv, toD, PyData.eqv]
@[simp] theorem eqv_bt : eqv (.bl k) (.tup ys) = false := by simp [eqv, toD, PyData.eqv]
@[simp] theorem eqv_bL : eqv (.bl k) (.lst ys) = false := by simp [eqv, toD, PyData.eqv]
@[simp] theorem eqv_si : eqv (.str y) (.int b) = false := by simp [eqv, toD, PyData.eqv]
@[simp] theorem eqv_sb : eqv (.str y) (.bl k) = false := by simp [eqv, toD, PyData.eqv]
@[simp] theorem eqv_st : eqv (.str y) (.tup ys) = false := by simp [eqv, toD, PyData.eqv]
@[simp] theorem eqv_sl : eqv (.str y) (.lst ys) = false := by simp [eqv, toD, PyData.eqv]
@[simp] theorem eqv_ti : eqv (.tup ys) (.int b) = false := by simp [eqv, toD, PyData.eqv]
@[simp] theorem eqv_tb : eqv (.tup ys) (.bl k) = false := by simp [eqv, toD, PyData.eqv]
@[simp] theorem eqv_ts : eqv (.tup ys) (.str y) = false := by simp [eqv, toD, PyData.eqv]
@[simp] theorem eqv_tl : eqv (.tup ys) (.lst xs) = false := by simp [eqv, toD, PyData.eqv]
@[simp] theorem eqv_li : eqv (.lst ys) (.int b) = false := by simp [eqv, toD, PyData.eqv]
@[simp] theorem eqv_lb : eqv (.lst ys) (.bl k) = false := by simp [eqv, toD, PyData.eqv]
@[simp] theorem eqv_ls : eqv (.lst ys) (.str y) = false := by simp [eqv, toD, PyData.eqv]
@[simp] theorem eqv_lt : eqv (.lst ys) (.tup xs) = false := by simp [eqv, toD, PyData.eqv]
@[simp] theorem eqvL_nn : eqvL [] [] = true := (rfl)
@[simp] theorem eqvL_cc (p q : PV) : eqvL (p :: xs) (q :: ys) = (eqv p q && eqvL xs ys) := (rfl)
@[simp] theorem eqvL_nc (q : PV) : eqvL [] (q :: ys) = false := (rfl)
@[simp] theorem eqvL_cn (q : PV) : eqvL (q :: ys) [] = false := (rfl)
end
class Rp (α : Type) where
  rep : α → PV
  dep : Nat
  ok : ∀ a, okN dep (rep a) = true
  eq : ∀ a b, eqv (rep a) (rep b) = true ↔ a = b
class Od (α : Type) extends Rp α where
  al : ∀ a b, PySem.W.alike (toD (rep a)) (toD (rep b)) = true
  nn : ∀ a, rep a ≠ .non
  lt : α → α → Prop
  dl : ∀ a b, Decidable (lt a b)
  h_lt : ∀ a b, PySem.W.dataLt (toD (rep a)) (toD (rep b)) = true ↔ lt a b
  irr : ∀ a, ¬ lt a a
  trans : ∀ a b c, lt a b → lt b c → lt a c
  tri : ∀ a b, lt a b ∨ a = b ∨ lt b a
class Sd (α : Type) extends Od α where
  knd : (∀ a, (match rep a with | .tup (_ :: _) => true | _ => false) = true) ∨ (∀ a, (match rep a with | .tup _ => false | .non => false | _ => true) = true)
  dpl : dep ≤ 60
open Rp (rep)
instance {α : Type} [Od α] (a b : α) : Decidable (Od.lt a b) := Od.dl a b
theorem rep_inj {α : Type} [Rp α] {a b : α} (h : (rep a : PV) = rep b) : a = b := (Rp.eq a b).mp (h ▸ (Rp.eq a a).mpr rfl)
theorem toDs_mapr {α : Type} (f : α → PV) : ∀ xs : List α, toDs (xs.map f) = xs.map fun x => toD (f x)
  | [] => rfl
  | x :: r => by rw [List.map_cons, toDs, toDs_mapr f r]; rfl
theorem okAll {α : Type} [Rp α] {n : Nat} (h : Rp.dep α ≤ n) : ∀ xs : List α, (xs.map rep).all (okN n) = true
  | [] => rfl
  | x :: r => by rw [List.map_cons, List.all_cons, okN_mono (Rp.ok x) h, okAll h r]; rfl
theorem eqL_map {α : Type} [Rp α] : ∀ xs ys : List α, eqvL (xs.map rep) (ys.map rep) = true ↔ xs = ys
  | [], [] => by simp
  | [], _ :: _ => by simp
  | _ :: _, [] => by simp
  | x :: xs, y :: ys => by simp [Rp.eq, eqL_map xs ys]
theorem alL_map {α : Type} [Od α] : ∀ xs ys : List α, PySem.W.alikeAll (toDs (xs.map rep)) (toDs (ys.map rep)) = true
  | [], [] => rfl
  | [], _ :: _ => by simp [toDs, PySem.W.alikeAll]
  | _ :: _, [] => by simp [toDs, PySem.W.alikeAll]
  | x :: xs, y :: ys => by simp [toDs, PySem.W.alikeAll, Od.al, alL_map xs ys]
theorem eqD_self {α : Type} [Rp α] (a : α) : PyData.eqv (toD (rep a)) (toD (rep a)) = true := (Rp.eq a a).mpr rfl
theorem eqD_ne {α : Type} [Rp α] {a b : α} (h : a ≠ b) : PyData.eqv (toD (rep a)) (toD (rep b)) = false := by
  have := mt (Rp.eq a b).mp h
  simpa [eqv] using this
instance : Sd Int where
  rep := .int
  dep := 0
  ok := fun _ => rfl
  eq := by simp
  al := fun _ _ => by simp [toD, PySem.W.alike]
  nn := fun _ h => by cases h
  lt := (· < ·)
  dl := fun _ _ => inferInstance
  h_lt := fun a b => by simp [toD, PySem.W.dataLt_int]
  irr := fun a => by omega
  trans := fun a b c => by omega
  tri := fun a b => by omega
  knd := .inr fun _ => rfl
  dpl := by decide
def ltL {α : Type} (lt : α → α → Prop) : List α → List α → Prop
  | [], [] => False
  | [], _ :: _ => True
  | _ :: _, [] => False
  | x :: xs, y :: ys => lt x y ∨ (x = y ∧ ltL lt xs ys)
def ltL_dec {α : Type} [DecidableEq α] (lt : α → α → Prop) [h : ∀ a b, Decidable (lt a b)] : ∀ xs ys : List α, Decidable (ltL lt xs ys)
  | [], [] => .isFalse id
  | [], _ :: _ => .isTrue trivial
  | _ :: _, [] => .isFalse id
  | x :: xs, y :: ys => by unfold ltL; have := ltL_dec lt xs ys; infer_instance
theorem lexAll {α : Type} [Od α] : ∀ xs ys : List α, PyProof.Rows.lexLt PyProof.Rows.itemOrd (PySem.W.keyToksAll (toDs (xs.map rep))) (PySem.W.keyToksAll (toDs (ys.map rep))) = true ↔ ltL Od.lt xs ys
  | [], [] => by simp [ltL, PyProof.Rows.lex_irrefl]
  | [], y :: ys => by
    simp only [ltL, iff_true, List.map_nil, List.map_cons, toDs, PySem.W.keyToksAll]
    rw [PyProof.Rows.lex_diff (by simp)]
    rfl
  | x :: xs, [] => by
    simp only [ltL, List.map_nil, List.map_cons, toDs, PySem.W.keyToksAll, iff_false]
    rw [PyProof.Rows.lex_diff (by simp)]
    decide
  | x :: xs, y :: ys => by
    simp only [List.map_cons, toDs]
    rw [PySem.W.dataLt_cons (Od.al x y)]
    by_cases e : x = y
    · subst e
      rw [if_pos (eqD_self x), lexAll xs ys, ltL]
      constructor
      · intro h; exact .inr ⟨rfl, h⟩
      · rintro (h | ⟨_, h⟩)
        · exact absurd h (Od.irr x)
        · exact h
    · rw [if_neg (by rw [eqD_ne e]; decide), Od.h_lt, ltL]
      constructor
      · exact .inl
      · rintro (h | ⟨h, _⟩)
        · exact h
        · exact absurd h e
theorem ltL_irr {α : Type} [Od α] : ∀ xs : List α, ¬ ltL Od.lt xs xs
  | [] => id
  | x :: xs => by
    rintro (h | ⟨_, h⟩)
    · exact Od.irr x h
    · exact ltL_irr xs h
theorem ltL_trans {α : Type} [Od α] : ∀ xs ys zs : List α, ltL Od.lt xs ys → ltL Od.lt ys zs → ltL Od.lt xs zs
  | [], [], _, h, _ => h.elim
  | [], _ :: _, [], _, h => h.elim
  | [], _ :: _, _ :: _, _, _ => trivial
  | _ :: _, [], _, h, _ => h.elim
  | _ :: _, _ :: _, [], _, h => h.elim
  | x :: xs, y :: ys, z :: zs, h1, h2 => by
    rcases h1 with h1 | ⟨rfl, h1⟩
    · rcases h2 with h2 | ⟨rfl, h2⟩
      · exact .inl (Od.trans _ _ _ h1 h2)
      · exact .inl h1
    · rcases h2 with h2 | ⟨rfl, h2⟩
      · exact .inl h2
      · exact .inr ⟨rfl, ltL_trans xs ys zs h1 h2⟩
theorem ltL_tri {α : Type} [Od α] : ∀ xs ys : List α, ltL Od.lt xs ys ∨ xs = ys ∨ ltL Od.lt ys xs
  | [], [] => .inr (.inl rfl)
  | [], _ :: _ => .inl trivial
  | _ :: _, [] => .inr (.inr trivial)
  | x :: xs, y :: ys => by
    rcases Od.tri x y with h | rfl | h
    · exact .inl (.inl h)
    · rcases ltL_tri xs ys with h | rfl | h
      · exact .inl (.inr ⟨rfl, h⟩)
      · exact .inr (.inl rfl)
      · exact .inr (.inr (.inr ⟨rfl, h⟩))
    · exact .inr (.inr (.inl h))
def decOf {α : Type} [Rp α] : DecidableEq α := fun a b => decidable_of_iff _ (Rp.eq a b)
instance instRpL {α : Type} [Rp α] : Rp (List α) where
  rep := fun xs => .tup (xs.map rep)
  dep := Rp.dep α + 1
  ok := fun xs => okAll (Nat.le_refl _) xs
  eq := fun xs ys => by rw [eqv_tt]; exact eqL_map xs ys
instance instOdL {α : Type} [Od α] : Od (List α) where
  al := fun xs ys => by show PySem.W.alike (.tuple _) (.tuple _) = true; rw [PySem.W.alike]; exact alL_map xs ys
  nn := fun _ h => by cases h
  lt := ltL Od.lt
  dl := by have : DecidableEq α := decOf; exact ltL_dec Od.lt
  h_lt := fun xs ys => by
    show PySem.W.dataLt (.tuple _) (.tuple _) = true ↔ _
    rw [PySem.W.dataLt_tuple]
    exact lexAll xs ys
  irr := ltL_irr
  trans := ltL_trans
  tri := ltL_tri
instance instRpP {α β : Type} [Rp α] [Rp β] : Rp (α × β) where
  rep := fun p => .tup [rep p.1, rep p.2]
  dep := max (Rp.dep α) (Rp.dep β) + 1
  ok := fun p => by
    rw [okN_tup]
    simp only [List.all_cons, List.all_nil, Bool.and_true]
    rw [okN_mono (Rp.ok p.1) (Nat.le_max_left _ _), okN_mono (Rp.ok p.2) (Nat.le_max_right _ _)]
    rfl
  eq := fun p q => by
    rw [eqv_tt, eqvL_cc, eqvL_cc, eqvL_nn]
    simp only [Bool.and_true, Bool.and_eq_true, Rp.eq]
    constructor
    · rintro ⟨a, b⟩; exact Prod.ext a b
    · rintro rfl; exact ⟨rfl, rfl⟩
theorem dlt2 {α β : Type} [Od α] [Od β] (p q : α × β) : PySem.W.dataLt (.tuple [toD (rep p.1), toD (rep p.2)]) (.tuple [toD (rep q.1), toD (rep q.2)]) = true ↔ Od.lt p.1 q.1 ∨ (p.1 = q.1 ∧ Od.lt p.2 q.2) := by
  rw [PySem.W.dataLt_pair (Od.al _ _) (Od.al _ _)]
  by_cases e : p.1 = q.1
  · rw [← e, if_pos (eqD_self _)]
    by_cases e2 : p.2 = q.2
    · rw [← e2, if_pos (eqD_self _)]
      constructor
      · intro h; cases h
      · rintro (h | ⟨_, h⟩)
        · exact absurd h (Od.irr _)
        · exact absurd h (Od.irr _)
    · rw [if_neg (by rw [eqD_ne e2]; decide), Od.h_lt]
      constructor
      · intro h; exact .inr ⟨rfl, h⟩
      · rintro (h | ⟨_, h⟩)
        · exact absurd h (Od.irr _)
        · exact h
  · rw [if_neg (by rw [eqD_ne e]; decide), Od.h_lt]
    constructor
    · exact .inl
    · rintro (h | ⟨h, _⟩)
      · exact h
      · exact absurd h e
instance instSdP {α β : Type} [Od α] [Od β] : Od (α × β) where
  al := fun p q => by
    show PySem.W.alike (.tuple (toDs [_, _])) (.tuple (toDs [_, _])) = true
    simp [PySem.W.alike, toDs, PySem.W.alikeAll, Od.al]
  nn := fun _ h => by cases h
  lt := fun p q => Od.lt p.1 q.1 ∨ (p.1 = q.1 ∧ Od.lt p.2 q.2)
  dl := by have : DecidableEq α := decOf; intro p q; infer_instance
  h_lt := fun p q => dlt2 p q
  irr := fun p => by
    rintro (h | ⟨_, h⟩)
    · exact Od.irr _ h
    · exact Od.irr _ h
  trans := fun p q r => by
    rintro (h | ⟨a, h⟩) (h' | ⟨a', h'⟩)
    · exact .inl (Od.trans _ _ _ h h')
    · exact .inl (a' ▸ h)
    · exact .inl (a ▸ h')
    · exact .inr ⟨a.trans a', Od.trans _ _ _ h h'⟩
  tri := fun p q => by
    rcases Od.tri p.1 q.1 with h | h | h
    · exact .inl (.inl h)
    · rcases Od.tri p.2 q.2 with h2 | h2 | h2
      · exact .inl (.inr ⟨h, h2⟩)
      · exact .inr (.inl (Prod.ext h h2))
      · exact .inr (.inr (.inr ⟨h.symm, h2⟩))
    · exact .inr (.inr (.inl h))
instance instSdPII : Sd (Int × Int) where
  knd := .inl fun _ => rfl
  dpl := by decide
section
variable {α : Type} [Sd α]
def leB (a b : α) : Bool := decide ¬ Od.lt b a
def sortD (xs : List α) : List α := xs.mergeSort leB
theorem all_pairs {p : PV → PV → Bool} {xs : List α} (h : ∀ a b : α, p (rep a) (rep b) = true) : ((xs.map rep).all fun a => (xs.map rep).all fun b => p a b) = true := by
  rw [List.all_eq_true]
  intro x hx
  obtain ⟨a, _, rfl⟩ := List.mem_map.mp hx
  rw [List.all_eq_true]
  intro y hy
  obtain ⟨b, _, rfl⟩ := List.mem_map.mp hy
  exact h a b
theorem all_map' {p : PV → Bool} {xs : List α} (h : ∀ a : α, p (rep a) = true) : (xs.map rep).all p = true := by
  rw [List.all_eq_true]
  intro x hx
  obtain ⟨a, _, rfl⟩ := List.mem_map.mp hx
  exact h a
theorem depth_le (a : α) : (toD (rep a)).depth ≤ 60 := by
  have := Rp.ok a
  rw [okN_eq] at this
  have := of_decide_eq_true (Bool.and_eq_true_iff.mp this).2
  exact Nat.le_trans this Sd.dpl
theorem sortable_map (xs : List α) : sortable (xs.map rep) = true := by
  unfold sortable
  rw [all_pairs (p := fun a b => PySem.W.alike (toD a) (toD b)) Od.al, all_map' (p := shallow) fun a => by unfold shallow; exact decide_eq_true (depth_le a)]
  rcases Sd.knd (α := α) with h | h
  · rw [all_map' h]; rfl
  · rw [Bool.or_eq_true_iff.mpr (.inr (all_map' h))]; rfl
theorem sortV_map (xs : List α) : sortV (xs.map rep) = (sortD xs).map rep := by
  unfold sortV sortD
  rw [List.map_mergeSort (r := leB)]
  intro a _ b _
  rw [leB]
  have := Od.h_lt (α := α) b a
  by_cases c : Od.lt b a
  · rw [this.mpr c]; simp [c]
  · have c' : PySem.W.dataLt (toD (rep b)) (toD (rep a)) = false := by
      cases z : PySem.W.dataLt (toD (rep b)) (toD (rep a)) with
      | false => rfl
      | true => exact absurd (this.mp z) c
    rw [c']; simp [c]
theorem op_sorted (xs : List α) : op1 .sorted (.lst (xs.map rep)) = some (.olst ((sortD xs).map rep)) := by
  show (if sortable (xs.map rep) then some (Slot.olst (sortV (xs.map rep))) else none) = _
  rw [sortable_map, sortV_map]; rfl
theorem op_sortedT (xs : List α) : op1 .sorted (.tup (xs.map rep)) = some (.olst ((sortD xs).map rep)) := by
  show (if sortable (xs.map rep) then some (Slot.olst (sortV (xs.map rep))) else none) = _
  rw [sortable_map, sortV_map]; rfl
theorem sortD_perm (xs : List α) : (sortD xs).Perm xs := List.mergeSort_perm xs _
theorem sortD_mem {xs : List α} {a : α} : a ∈ sortD xs ↔ a ∈ xs := (sortD_perm xs).mem_iff
theorem sortD_len (xs : List α) : (sortD xs).length = xs.length := (sortD_perm xs).length_eq
theorem sortD_le (xs : List α) : (sortD xs).Pairwise fun a b => ¬ Od.lt b a := by
  have := List.pairwise_mergeSort (le := leB (α := α)) (fun a b c h1 h2 => by
    simp only [leB, decide_eq_true_eq] at *
    intro h
    rcases Od.tri a b with q | rfl | q
    · exact h2 (Od.trans _ _ _ h q)
    · exact h2 h
    · exact h1 q) (fun a b => by
    simp only [leB, Bool.or_eq_true, decide_eq_true_eq]
    rcases Od.tri a b with q | rfl | q
    · exact .inl fun h => Od.irr _ (Od.trans _ _ _ q h)
    · exact .inl (Od.irr _)
    · exact .inr fun h => Od.irr _ (Od.trans _ _ _ q h)) xs
  exact this.imp fun h => by simpa [leB] using h
theorem sortD_lt {xs : List α} (h : xs.Nodup) : (sortD xs).Pairwise Od.lt := by
  have nd : (sortD xs).Nodup := (sortD_perm xs).nodup_iff.mpr h
  refine ((sortD_le xs).and nd).imp fun {a b} ⟨h1, h2⟩ => ?_
  rcases Od.tri a b with q | q | q
  · exact q
  · exact absurd q h2
  · exact absurd q h1
end
theorem asc_ext {α : Type} [Od α] : ∀ {xs ys : List α}, xs.Pairwise Od.lt → ys.Pairwise Od.lt → (∀ a, a ∈ xs ↔ a ∈ ys) → xs = ys
  | [], [], _, _, _ => rfl
  | [], y :: ys, _, _, h => nomatch (h y).mpr List.mem_cons_self
  | x :: xs, [], _, _, h => nomatch (h x).mp List.mem_cons_self
  | x :: xs, y :: ys, h1, h2, h => by
    rw [List.pairwise_cons] at h1 h2
    have e : x = y := by
      rcases List.mem_cons.mp ((h x).mp List.mem_cons_self) with e | e
      · exact e
      · rcases List.mem_cons.mp ((h y).mpr List.mem_cons_self) with e' | e'
        · exact e'.symm
        · exact absurd (Od.trans _ _ _ (h2.1 x e) (h1.1 y e')) (Od.irr _)
    subst e
    rw [asc_ext h1.2 h2.2 fun a => ?_]
    constructor
    · intro m
      rcases List.mem_cons.mp ((h a).mp (List.mem_cons_of_mem _ m)) with e | e
      · subst e; exact absurd (h1.1 _ m) (Od.irr _)
      · exact e
    · intro m
      rcases List.mem_cons.mp ((h a).mpr (List.mem_cons_of_mem _ m)) with e | e
      · subst e; exact absurd (h2.1 _ m) (Od.irr _)
      · exact e
theorem asc_nodup {α : Type} [Od α] {xs : List α} (h : xs.Pairwise Od.lt) : xs.Nodup := h.imp fun {a b} h e => by subst e; exact Od.irr _ h
theorem sortD_asc {α : Type} [Sd α] {xs : List α} (h : xs.Pairwise Od.lt) : sortD xs = xs := asc_ext (sortD_lt (asc_nodup h)) h fun _ => sortD_mem
structure I3 where
  a : Int
  b : Int
  c : Int
def I3.l (x : I3) : List Int := [x.a, x.b, x.c]
theorem I3.inj {x y : I3} (h : x.l = y.l) : x = y := by
  cases x; cases y
  simp only [I3.l, List.cons.injEq] at h
  obtain ⟨rfl, rfl, rfl, _⟩ := h
  rfl
instance : DecidableEq I3 := fun x y => decidable_of_iff (x.l = y.l) ⟨I3.inj, fun h => h ▸ rfl⟩
instance instSdI3 : Sd I3 where
  rep := fun x => rep x.l
  dep := 1
  ok := fun x => Rp.ok x.l
  eq := fun x y => (Rp.eq x.l y.l).trans ⟨I3.inj, fun h => h ▸ rfl⟩
  al := fun x y => Od.al x.l y.l
  nn := fun x => Od.nn x.l
  lt := fun x y => Od.lt x.l y.l
  dl := fun x y => Od.dl x.l y.l
  h_lt := fun x y => Od.h_lt x.l y.l
  irr := fun x => Od.irr x.l
  trans := fun x y z => Od.trans x.l y.l z.l
  tri := fun x y => (Od.tri x.l y.l).imp id (Or.imp I3.inj id)
  knd := .inl fun _ => rfl
  dpl := by decide
@[simp] theorem rep_i3 (x : I3) : (rep x : PV) = .tup [.int x.a, .int x.b, .int x.c] := (rfl)
end RF
set_option maxHeartbeats 400000
namespace RF
open Rp (rep)
open PySem
@[simp] theorem rep_int (x : Int) : (rep x : PV) = .int x := (rfl)
@[simp] theorem rep_pair {α β : Type} [Rp α] [Rp β] (p : α × β) : (rep p : PV) = .tup [rep p.1, rep p.2] := (rfl)
@[simp] theorem rep_list {α : Type} [Rp α] (p : List α) : (rep p : PV) = .tup (p.map rep) := (rfl)
@[simp] theorem map_int (xs : List Int) : xs.map PV.int = xs.map rep := (rfl)
section
variable (i j : Int) (xs ys : List PV) (a b : PV)
@[simp] theorem o2_add : op2 .add (.int i) (.int j) = some (.val (.int (i + j))) := (rfl)
@[simp] theorem o2_addt (h : xs.length + ys.length ≤ 1000000) : op2 .add (.tup xs) (.tup ys) = some (.val (.tup (xs ++ ys))) := if_pos (le_lim h)
@[simp] theorem o2_addl (h : xs.length + ys.length ≤ 1000000) : op2 .add (.lst xs) (.lst ys) = some (.olst (xs ++ ys)) := if_pos (le_lim h)
@[simp] theorem o2_sub : op2 .sub (.int i) (.int j) = some (.val (.int (i - j))) := (rfl)
@[simp] theorem o2_mul (h : sm64 i ∨ sm64 j) : op2 .mul (.int i) (.int j) = some (.val (.int (i * j))) := if_pos (by unfold sm64 at h; omega)
@[simp] theorem o2_mod (h : 0 < j) : op2 .mod (.int i) (.int j) = some (.val (.int (i % j))) := if_pos h
@[simp] theorem o2_fdiv (h : 0 < j) (h1 : j < 1073741824) : op2 .fdiv (.int i) (.int j) = some (.val (.int (i / j))) := if_pos ⟨h, h1⟩
@[simp] theorem o2_eq : op2 .eq a b = if okN 64 a && okN 64 b then some (.val (.bl (eqv a b))) else none := by
  rw [← okD_eq, ← okD_eq]; unfold op2; split <;> first | rfl | simp_all
@[simp] theorem o2_ne : op2 .ne a b = if okN 64 a && okN 64 b then some (.val (.bl (!eqv a b))) else none := by
  rw [← okD_eq, ← okD_eq]; unfold op2; split <;> first | rfl | simp_all
@[simp] theorem o2_lt : op2 .lt (.int i) (.int j) = some (.val (.bl (decide (i < j)))) := (rfl)
@[simp] theorem o2_le : op2 .le (.int i) (.int j) = some (.val (.bl (decide (i ≤ j)))) := (rfl)
@[simp] theorem o2_gt : op2 .gt (.int i) (.int j) = some (.val (.bl (decide (j < i)))) := (rfl)
@[simp] theorem o2_ge : op2 .ge (.int i) (.int j) = some (.val (.bl (decide (j ≤ i)))) := (rfl)
@[simp] theorem o2_int : op2 .isIn a (.tup xs) = if okN 64 a && xs.all (okN 64) then some (.val (.bl (xs.any fun x => eqv x a))) else none := by
  have : okD = okN 64 := funext okD_eq
  rw [← this]; rfl
@[simp] theorem o2_inl : op2 .isIn a (.lst xs) = if okN 64 a && xs.all (okN 64) then some (.val (.bl (xs.any fun x => eqv x a))) else none := by
  have : okD = okN 64 := funext okD_eq
  rw [← this]; rfl
@[simp] theorem o2_nint : op2 .notIn a (.tup xs) = if okN 64 a && xs.all (okN 64) then some (.val (.bl (!xs.any fun x => eqv x a))) else none := by
  have : okD = okN 64 := funext okD_eq
  rw [← this]; rfl
@[simp] theorem o2_ninl : op2 .notIn a (.lst xs) = if okN 64 a && xs.all (okN 64) then some (.val (.bl (!xs.any fun x => eqv x a))) else none := by
  have : okD = okN 64 := funext okD_eq
  rw [← this]; rfl
@[simp] theorem o2_idxt : op2 .idx (.tup xs) (.int i) = (L2.atI xs i).map .val := (rfl)
@[simp] theorem o2_idxl : op2 .idx (.lst xs) (.int i) = (L2.atI xs i).map .val := (rfl)
@[simp] theorem o2_idxx : op2 .idx (.xls xs) (.int i) = (L2.atI xs i).map .val := (rfl)
@[simp] theorem o2_min : op2 .min (.int i) (.int j) = some (.val (.int (min i j))) := by
  show some (Slot.val (.int (if j < i then j else i))) = _
  congr 3; split <;> omega
@[simp] theorem o2_max : op2 .max (.int i) (.int j) = some (.val (.int (max i j))) := by
  show some (Slot.val (.int (if j > i then j else i))) = _
  congr 3; split <;> omega
@[simp] theorem o1_neg : op1 .neg (.int i) = some (.val (.int (-i))) := (rfl)
@[simp] theorem o1_lent : op1 .len (.tup xs) = some (.val (.int xs.length)) := (rfl)
@[simp] theorem o1_lenl : op1 .len (.lst xs) = some (.val (.int xs.length)) := (rfl)
@[simp] theorem o1_lenx : op1 .len (.xls xs) = some (.val (.int xs.length)) := (rfl)
@[simp] theorem o1_tupt : op1 .tupleOf (.tup xs) = some (.val (.tup xs)) := (rfl)
@[simp] theorem o1_tupl : op1 .tupleOf (.lst xs) = some (.val (.tup xs)) := (rfl)
@[simp] theorem o1_lstt : op1 .listOf (.tup xs) = some (.olst xs) := (rfl)
@[simp] theorem o1_lstl : op1 .listOf (.lst xs) = some (.olst xs) := (rfl)
@[simp] theorem o1_lstx : op1 .listOf (.xls xs) = some (.olst xs) := (rfl)
@[simp] theorem o1_srt {α : Type} [Sd α] (xs : List α) : op1 .sorted (.lst (xs.map rep)) = some (.olst ((sortD xs).map rep)) := op_sorted xs
@[simp] theorem o1_srtt {α : Type} [Sd α] (xs : List α) : op1 .sorted (.tup (xs.map rep)) = some (.olst ((sortD xs).map rep)) := op_sortedT xs
@[simp] theorem o1_sum : op1 .sum (.lst xs) = (intsOf xs).map fun is => .val (.int is.sum) := (rfl)
@[simp] theorem o1_all : op1 .all (.lst xs) = (blsOf xs).map fun bs => .val (.bl (bs.all id)) := (rfl)
@[simp] theorem o1_any : op1 .any (.lst xs) = (blsOf xs).map fun bs => .val (.bl (bs.any id)) := (rfl)
@[simp] theorem o1_isN : op1 .isNone a = some (.val (.bl (isN a))) := (rfl)
@[simp] theorem o1_nnN : op1 .notNone a = some (.val (.bl (!isN a))) := (rfl)
@[simp] theorem isN_non : isN .non = true := (rfl)
@[simp] theorem isN_int : isN (.int i) = false := (rfl)
@[simp] theorem isN_bl (k : Bool) : isN (.bl k) = false := (rfl)
@[simp] theorem isN_str (x : Str) : isN (.str x) = false := (rfl)
@[simp] theorem isN_tup : isN (.tup xs) = false := (rfl)
@[simp] theorem isN_lst : isN (.lst xs) = false := (rfl)
@[simp] theorem isN_ins (c : Nat) (fs : List (Nat × PV)) : isN (.ins c fs) = false := (rfl)
@[simp] theorem o1_rev : op1 .rev (.lst xs) = some (.olst xs.reverse) := (rfl)
@[simp] theorem o1_notB (k : Bool) : op1 .notB (.bl k) = some (.val (.bl (!k))) := (rfl)
@[simp] theorem o1_intOf : op1 .intOf (.int i) = some (.val (.int i)) := (rfl)
@[simp] theorem o1_stp (lo : Option Int) (c : Int) (h : (stpL xs lo c).length ≤ 1000000) : op1 (.stp lo c) (.tup xs) = some (.val (.tup (stpL xs lo c))) := if_pos (le_lim h)
section
variable (t : Ty) (cs : List Nat) (c : Nat) (k : Bool) (x : Str) (fs : List (Nat × PV))
@[simp] theorem o1_isT_int : op1 (.isT t cs) (.int i) = some (.val (.bl (decide (t = .int)))) := by cases t <;> rfl
@[simp] theorem o1_isT_bl : op1 (.isT t cs) (.bl k) = some (.val (.bl (decide (t = .int ∨ t = .bool)))) := by cases t <;> rfl
@[simp] theorem o1_isT_str : op1 (.isT t cs) (.str x) = some (.val (.bl (decide (t = .str)))) := by cases t <;> rfl
@[simp] theorem o1_isT_tup : op1 (.isT t cs) (.tup xs) = some (.val (.bl (decide (t = .tuple)))) := by cases t <;> rfl
@[simp] theorem o1_isT_lst : op1 (.isT t cs) (.lst xs) = some (.val (.bl (decide (t = .list)))) := by cases t <;> rfl
@[simp] theorem o1_isT_xls : op1 (.isT t cs) (.xls xs) = some (.val (.bl (decide (t = .list)))) := by cases t <;> rfl
@[simp] theorem o1_isT_non : op1 (.isT t cs) .non = some (.val (.bl false)) := by cases t <;> rfl
@[simp] theorem o1_isT_ins : op1 (.isT t cs) (.ins c fs) = if cs.contains c then some (.val (.bl false)) else none := by cases t <;> rfl
@[simp] theorem o1_isC_ins (d : Nat) : op1 (.isC d cs) (.ins c fs) = if cs.contains c then some (.val (.bl (decide (c = d)))) else none := (rfl)
@[simp] theorem o1_isC_int (d : Nat) : op1 (.isC d cs) (.int i) = some (.val (.bl false)) := (rfl)
@[simp] theorem o1_isC_bl (d : Nat) : op1 (.isC d cs) (.bl k) = some (.val (.bl false)) := (rfl)
@[simp] theorem o1_isC_str (d : Nat) : op1 (.isC d cs) (.str x) = some (.val (.bl false)) := (rfl)
@[simp] theorem o1_isC_tup (d : Nat) : op1 (.isC d cs) (.tup xs) = some (.val (.bl false)) := (rfl)
@[simp] theorem o1_isC_lst (d : Nat) : op1 (.isC d cs) (.lst xs) = some (.val (.bl false)) := (rfl)
@[simp] theorem o1_isC_non (d : Nat) : op1 (.isC d cs) .non = some (.val (.bl false)) := (rfl)
end
end
section
variable {α β : Type}
@[simp] theorem atI_nat (xs : List α) (k : Nat) : L2.atI xs (k : Int) = xs[k]? := by
  unfold L2.atI L2.ixN
  rw [if_pos (by omega)]
  by_cases h : (k : Int) < (xs.length : Int)
  · rw [if_pos h]; rfl
  · rw [if_neg h]
    have : xs.length ≤ k := by omega
    rw [List.getElem?_eq_none this]; rfl
@[simp] theorem atI_nn (xs : List α) (i : Int) (h : 0 ≤ i) : L2.atI xs i = xs[i.toNat]? := by
  have := atI_nat xs i.toNat
  rwa [Int.toNat_of_nonneg h] at this
theorem atI_neg (xs : List α) {k : Nat} (h0 : 0 < k) (h1 : k ≤ xs.length) : L2.atI xs (-(k : Int)) = xs[xs.length - k]? := by
  unfold L2.atI L2.ixN
  rw [if_neg (by omega), if_pos (by omega)]
  show xs[(-(k : Int) + (xs.length : Int)).toNat]? = _
  rw [show (-(k : Int) + (xs.length : Int)).toNat = xs.length - k by omega]
@[simp] theorem atI_m1 (xs : List α) : L2.atI xs (-1) = xs.getLast? := by
  cases xs with
  | nil => rfl
  | cons a r =>
    have := atI_neg (a :: r) (k := 1) (by omega) (by simp)
    rw [show (-1 : Int) = -((1 : Nat) : Int) from rfl, this, List.getLast?_eq_getElem?]
@[simp] theorem atI_map (f : α → β) (xs : List α) (i : Int) : L2.atI (xs.map f) i = (L2.atI xs i).map f := by
  unfold L2.atI
  rw [List.length_map]
  cases L2.ixN xs.length i with
  | none => rfl
  | some j => simp
@[simp] theorem blsOf_map (xs : List α) (q : α → Bool) : blsOf (xs.map fun x => .bl (q x)) = some (xs.map q) := by
  induction xs with
  | nil => rfl
  | cons a r ih => rw [List.map_cons, blsOf, ih]; rfl
@[simp] theorem blsOf_nil : blsOf [] = some [] := (rfl)
@[simp] theorem intsOf_map (xs : List α) (q : α → Int) : intsOf (xs.map fun x => .int (q x)) = some (xs.map q) := by
  induction xs with
  | nil => rfl
  | cons a r ih => rw [List.map_cons, intsOf, ih]; rfl
@[simp] theorem intsOf_rep (xs : List Int) : intsOf (xs.map rep) = some xs := by
  have := intsOf_map xs id
  simpa using this
theorem any_rep [Rp α] [DecidableEq α] (xs : List α) (a : α) : ((xs.map rep).any fun x => eqv x (rep a)) = decide (a ∈ xs) := by
  rw [Bool.eq_iff_iff, List.any_map, List.any_eq_true]
  simp [Rp.eq]
@[simp high] theorem any_int (xs : List Int) (a : Int) : ((xs.map rep).any fun x => eqv x (.int a)) = decide (a ∈ xs) := any_rep xs a
@[simp high] theorem any_ii (xs : List (Int × Int)) (a b : Int) : ((xs.map rep).any fun x => eqv x (.tup [.int a, .int b])) = decide ((a, b) ∈ xs) := by
  have := any_rep xs (a, b)
  rw [Bool.eq_iff_iff] at *
  simpa using this
@[simp high] theorem all_ok_int (xs : List Int) (n : Nat) : (xs.map rep).all (okN n) = true := okAll (Nat.zero_le _) xs
@[simp high] theorem all_ok_ii (xs : List (Int × Int)) (n : Nat) : (xs.map rep).all (okN (n + 1)) = true := okAll (show 1 ≤ n + 1 by omega) xs
@[simp] theorem o2_ltii (a b c d : Int) : op2 .lt (.tup [.int a, .int b]) (.tup [.int c, .int d]) = some (.val (.bl (decide (a < c ∨ (a = c ∧ b < d))))) := by
  show cmpv (fun i j => decide (i < j)) (fun d e => PySem.W.dataLt d e) (.tup [.int a, .int b]) (.tup [.int c, .int d]) = _
  unfold cmpv
  dsimp only
  rw [if_pos (by
    simp [cmpOk, toD, toDs, PySem.W.alike, PySem.W.alikeAll, shallow, PyData.depth, PyData.depthAll])]
  congr 3
  show PySem.W.dataLt _ _ = _
  simp only [toD, toDs]
  exact PySem.W.dataLt_ii a b c d
theorem o2_lt_rep [Sd α] (a b : α) : op2 .lt (rep a) (rep b) = some (.val (.bl (decide (Od.lt a b)))) := by
  have h := Od.h_lt a b
  have hc : cmpOk (rep a) (rep b) = true := by
    unfold cmpOk
    rw [Od.al, Od.al, Od.al, shallow, decide_eq_true (depth_le a)]
    have := Od.nn a
    cases z : (rep a : PV) <;> first | rfl | exact absurd z this
  show cmpv (fun i j => decide (i < j)) (fun d e => PySem.W.dataLt d e) (rep a) (rep b) = _
  have e : (if cmpOk (rep a) (rep b) then some (Slot.val (PV.bl (PySem.W.dataLt (toD (rep a)) (toD (rep b))))) else none) = some (.val (.bl (decide (Od.lt a b)))) := by
    rw [if_pos hc]
    congr 3
    rw [Bool.eq_iff_iff, h, decide_eq_true_eq]
  rw [← e]
  unfold cmpv
  split
  · rename_i i j z1 z2
    rw [z1, z2] at hc ⊢
    rw [if_pos hc]
    simp [toD, PySem.W.dataLt_int]
  · rfl
@[simp] theorem filter_tt (xs : List α) : xs.filter (fun _ => true) = xs := List.filter_eq_self.mpr fun _ _ => rfl
@[simp] theorem rngV_len (a b : Int) : (rngV a b).length = (b - a).toNat := by simp [rngV]
def rg (a b : Int) : List Int := (List.range (b - a).toNat).map fun k : Nat => a + (k : Int)
@[simp] theorem rngV_rg (a b : Int) : rngV a b = (rg a b).map rep := by unfold rngV rg; rw [List.map_map]; rfl
theorem rg_mem {a b x : Int} : x ∈ rg a b ↔ a ≤ x ∧ x < b := by
  unfold rg
  rw [List.mem_map]
  constructor
  · rintro ⟨k, hk, rfl⟩
    rw [List.mem_range] at hk
    omega
  · rintro ⟨h1, h2⟩
    exact ⟨(x - a).toNat, by rw [List.mem_range]; omega, by omega⟩
theorem rg_len (a b : Int) : (rg a b).length = (b - a).toNat := by simp [rg]
theorem rg_get {a b x : Int} {i : Nat} (h : (rg a b)[i]? = some x) : x = a + i ∧ (i : Int) < b - a := by
  unfold rg at h
  rw [List.getElem?_map] at h
  cases z : (List.range (b - a).toNat)[i]? with
  | none => rw [z] at h; cases h
  | some j =>
    rw [z] at h
    obtain ⟨hl, e⟩ := List.getElem?_eq_some_iff.mp z
    rw [List.length_range] at hl
    rw [List.getElem_range] at e
    subst e
    cases h
    exact ⟨rfl, by omega⟩
theorem rg_at {a b : Int} {i : Nat} (h : (i : Int) < b - a) : (rg a b)[i]? = some (a + i) := by
  unfold rg
  rw [List.getElem?_map, List.getElem?_range (by omega)]; rfl
theorem rg_cons {a b : Int} (h : a < b) : rg a b = a :: rg (a + 1) b := by
  apply List.ext_getElem?
  intro i
  cases i with
  | zero => rw [rg_at (by omega)]; simp
  | succ i =>
    rw [List.getElem?_cons_succ]
    by_cases c : (i : Int) + 1 < b - a
    · rw [rg_at (by omega), rg_at (by omega)]; congr 1; omega
    · rw [List.getElem?_eq_none (by rw [rg_len]; omega), List.getElem?_eq_none (by rw [rg_len]; omega)]
theorem rg_nil {a b : Int} (h : b ≤ a) : rg a b = [] := by
  apply List.eq_nil_of_length_eq_zero; rw [rg_len]; omega
theorem rg_asc (a b : Int) : (rg a b).Pairwise (· < ·) := by
  unfold rg
  rw [List.pairwise_map]
  exact List.pairwise_lt_range.imp fun h => by omega
def rg3 (a b c : Int) : List Int := (List.range (Builtin.Range.rangeSize a b c).toNat).map fun k : Nat => a + (k : Int) * c
@[simp] theorem rng3V_rg (a c : Int) (n : Nat) : rng3V a c n = ((List.range n).map fun k : Nat => a + (k : Int) * c).map rep := by unfold rng3V; rw [List.map_map]; rfl
end
def lenS : Slot → Nat
  | .olst xs => xs.length
  | _ => 0
@[simp] theorem lenS_lst (xs : List PV) : lenS (.olst xs) = xs.length := (rfl)
def lenAt (i : Nat) (e : Env) : Nat := lenS (e.getD i .dead)
@[simp] theorem lenAt_0 (a : Slot) (e : Env) : lenAt 0 (a :: e) = lenS a := (rfl)
@[simp] theorem lenAt_s (a : Slot) (e : Env) (i : Nat) : lenAt (i + 1) (a :: e) = lenAt i e := (rfl)
inductive Ends (N : Env → Prop) (T : Slot → Env → Prop) : SR → Prop
  | nx (e : Env) : N e → Ends N T (.nx e)
  | rt (s : Slot) (e : Env) : T s e → Ends N T (.rt s e)
inductive Nx (N : Env → Prop) : SR → Prop
  | mk (e : Env) : N e → Nx N (.nx e)
theorem nx_elim {N : Env → Prop} {r : SR} (h : Nx N r) : ∃ e, r = .nx e ∧ N e := by
  cases h; exact ⟨_, rfl, by assumption⟩
theorem ends_elim {N : Env → Prop} {T : Slot → Env → Prop} {r : SR} (h : Ends N T r) : (∃ e, r = .nx e ∧ N e) ∨ ∃ s e, r = .rt s e ∧ T s e := by
  cases h
  · exact .inl ⟨_, rfl, by assumption⟩
  · exact .inr ⟨_, _, rfl, by assumption⟩
theorem nx_of {N : Env → Prop} {r : SR} (e : Env) (h : r = .nx e) (k : N e) : Nx N r := by rw [h]; exact .mk e k
theorem ends_nx {N : Env → Prop} {T : Slot → Env → Prop} {r : SR} (e : Env) (h : r = .nx e) (k : N e) : Ends N T r := by rw [h]; exact .nx e k
theorem ends_rt {N : Env → Prop} {T : Slot → Env → Prop} {r : SR} (s : Slot) (e : Env) (h : r = .rt s e) (k : T s e) : Ends N T r := by rw [h]; exact .rt s e k
inductive Rt (Q : Slot → List Slot → Prop) : CR → Prop
  | mk (s : Slot) (bs : List Slot) : Q s bs → Rt Q (.ok s bs)
theorem rt_elim {Q : Slot → List Slot → Prop} {r : CR} (h : Rt Q r) : ∃ s bs, r = .ok s bs ∧ Q s bs := by
  cases h; exact ⟨_, _, rfl, by assumption⟩
theorem rt_of {Q : Slot → List Slot → Prop} {r : CR} (s : Slot) (bs : List Slot) (h : r = .ok s bs) (k : Q s bs) : Rt Q r := by rw [h]; exact .mk s bs k
section
variable {α : Type} {tg : T} {ck : Env → Bool} {b : Env → SR}
inductive Turn (ck : Env → Bool) (I : Env → Prop) (P : SR → Prop) : SR → Prop
  | nx (e : Env) : ck e = true → I e → Turn ck I P (.nx e)
  | ct (e : Env) : ck e = true → I e → Turn ck I P (.ct e)
  | bk (e : Env) : P (.nx e) → Turn ck I P (.bk e)
  | rt (s : Slot) (e : Env) : P (.rt s e) → Turn ck I P (.rt s e)
  | exc (x : Exn) (e : Env) : P (.exc x e) → Turn ck I P (.exc x e)
theorem turn_go {I : Env → Prop} {P : SR → Prop} {r : SR} (e : Env) (h : r = .nx e) (hc : ck e = true) (hI : I e) : Turn ck I P r := by rw [h]; exact .nx e hc hI
theorem turn_ct' {I : Env → Prop} {P : SR → Prop} {r : SR} (e : Env) (h : r = .ct e) (hc : ck e = true) (hI : I e) : Turn ck I P r := by rw [h]; exact .ct e hc hI
theorem turn_end {I : Env → Prop} {P : SR → Prop} {r : SR} (s : Slot) (e : Env) (h : r = .rt s e) (hP : P (.rt s e)) : Turn ck I P r := by rw [h]; exact .rt s e hP
theorem turn_brk {I : Env → Prop} {P : SR → Prop} {r : SR} (e : Env) (h : r = .bk e) (hP : P (.nx e)) : Turn ck I P r := by rw [h]; exact .bk e hP
theorem turn_nx_of {I J : Env → Prop} {P : SR → Prop} {r : SR} (h : Nx J r) (k : ∀ e, J e → ck e = true ∧ I e) : Turn ck I P r := by
  cases h
  rename_i e he
  exact .nx e (k e he).1 (k e he).2
def asgB (b : Env → SR) : Option Env → SR
  | some e => b e
  | none => .bad
@[simp] theorem asgB_some (e : Env) : asgB b (some e) = b e := (rfl)
theorem for_rule (f : α → PV) (I : List α → List α → Env → Prop) (P : SR → Prop) : ∀ (xs pre : List α) (e : Env), I pre xs e →
    (∀ pre x post e, I pre (x :: post) e → Turn ck (I (pre ++ [x]) post) P (asgB b (asgT tg (f x) e))) →
    (∀ pre e, I pre [] e → P (.nx e)) → P (forL tg ck b (xs.map f) e)
  | [], pre, e, h, _, fin => fin pre e h
  | x :: xs, pre, e, h, st, fin => by
    have h1 := st pre x xs e h
    rw [List.map_cons, forL]
    cases z : asgT tg (f x) e with
    | none => rw [z] at h1; cases h1
    | some e1 =>
      rw [z] at h1
      rw [asgB_some] at h1
      dsimp only
      generalize b e1 = r at h1
      cases h1 with
      | nx e2 h2 h3 => dsimp only; rw [if_pos h2]; exact for_rule f I P xs _ e2 h3 st fin
      | ct e2 h2 h3 => dsimp only; rw [if_pos h2]; exact for_rule f I P xs _ e2 h3 st fin
      | bk e2 h2 => exact h2
      | rt s e2 h2 => exact h2
      | exc x e2 h2 => exact h2
theorem whl_rule {t : Env → R Bool} (I : Env → Prop) (μ : Env → Nat) (P : SR → Prop)
    (st : ∀ e, I e → ∃ k e1, t e = .ok k e1 ∧ (k = false → P (.nx e1)) ∧ (k = true → Turn (fun _ => true) (fun e2 => I e2 ∧ μ e2 < μ e) P (b e1))) : ∀ (n : Nat) (e : Env), I e → μ e < n → P (whlL t b n e)
  | 0, e, _, h => absurd h (Nat.not_lt_zero _)
  | n + 1, e, hI, h => by
    obtain ⟨k, e1, h1, h2, h3⟩ := st e hI
    rw [whlL, h1]
    cases k with
    | false => exact h2 rfl
    | true =>
      dsimp only
      have h3 := h3 rfl
      generalize b e1 = r at h3
      cases h3 with
      | nx e2 _ h4 => exact whl_rule I μ P st n e2 h4.1 (by have := h4.2; omega)
      | ct e2 _ h4 => exact whl_rule I μ P st n e2 h4.1 (by have := h4.2; omega)
      | bk e2 h4 => exact h4
      | rt s e2 h4 => exact h4
      | exc x e2 h4 => exact h4
end
section
variable {α : Type} {tg : T} {own : List Nat}
def lcT2 (own : List Nat) : R EV → R (Option PV)
  | .ok (.sl s) e3 => if live s then .ok (some (frz s)) (wipeE e3 own) else .bad
  | .ok (.pl _ _) _ => .bad
  | .exc x e => .exc x e
  | .bad => .bad
def lcT1 (own : List Nat) (el : Env → R EV) : R Bool → R (Option PV)
  | .ok k e2 => bif k then lcT2 own (el e2) else .ok none (wipeE e2 own)
  | .exc x e => .exc x e
  | .bad => .bad
@[simp] theorem lcT2_sl (own : List Nat) (s : Slot) (e : Env) : lcT2 own (.ok (.sl s) e) = if live s then .ok (some (frz s)) (wipeE e own) else .bad := (rfl)
@[simp high] theorem lcT1_t (own : List Nat) (el : Env → R EV) (e : Env) : lcT1 own el (.ok true e) = lcT2 own (el e) := (rfl)
@[simp high] theorem lcT1_f (own : List Nat) (el : Env → R EV) (e : Env) : lcT1 own el (.ok false e) = .ok none (wipeE e own) := (rfl)
@[simp] theorem lcT1_ok (own : List Nat) (el : Env → R EV) (k : Bool) (e : Env) : lcT1 own el (.ok k e) = bif k then lcT2 own (el e) else .ok none (wipeE e own) := (rfl)
def lcTurn (tg : T) (own : List Nat) (c : Env → R Bool) (el : Env → R EV) (x : PV) (e : Env) : R (Option PV) := match asgT tg x e with
  | some e1 => lcT1 own el (c e1)
  | none => .bad
theorem lcL_turn {ck : Env → Bool} {c : Env → R Bool} {el : Env → R EV} (x : PV) (xs acc : List PV) (e : Env) {o : Option PV} {e' : Env} (h : lcTurn tg own c el x e = .ok o e') (hk : ck e' = true) (hl : acc.length < lim) :
    lcL tg own ck c el (x :: xs) acc e = lcL tg own ck c el xs (acc ++ o.toList) e' := by
  unfold lcTurn at h
  rw [lcL]
  cases z : asgT tg x e with
  | none => rw [z] at h; cases h
  | some e1 =>
    rw [z] at h
    dsimp only at h ⊢
    cases y : c e1 with
    | bad => rw [y] at h; cases h
    | exc _ _ => rw [y] at h; cases h
    | ok k e2 =>
      rw [y] at h
      cases k with
      | false =>
        simp only [lcT1_f] at h
        cases h
        dsimp only
        rw [if_pos hk]
        simp
      | true =>
        simp only [lcT1_t] at h
        dsimp only
        cases w : el e2 with
        | bad => rw [w] at h; cases h
        | exc _ _ => rw [w] at h; cases h
        | ok v e3 =>
          rw [w] at h
          cases v with
          | pl _ _ => cases h
          | sl s =>
            simp only [lcT2_sl] at h
            dsimp only
            by_cases q : live s = true
            · rw [if_pos q] at h
              cases h
              have : (live s && decide (acc.length < lim) && ck (wipeE e3 own)) = true := by rw [q, hk, decide_eq_true hl]; rfl
              rw [if_pos this]
              rfl
            · rw [if_neg q] at h; cases h
theorem wipe_len (e : Env) : ∀ own : List Nat, (wipeE e own).length = e.length
  | [] => rfl
  | i :: r => by rw [wipeE, List.length_set, wipe_len e r]
theorem wipe_get (e : Env) : ∀ (own : List Nat) (j : Nat), j ∉ own → (wipeE e own)[j]? = e[j]?
  | [], _, _ => rfl
  | i :: r, j, h => by
    rw [wipeE, List.getElem?_set_ne (by rintro rfl; exact h List.mem_cons_self), wipe_get e r j fun q => h (List.mem_cons_of_mem _ q)]
theorem back_len (e0 : Env) : ∀ (own : List Nat) (e : Env), (backE e0 e own).length = e.length
  | [], _ => rfl
  | i :: r, e => by rw [backE, back_len e0 r, List.length_set]
theorem back_get (e0 : Env) : ∀ (own : List Nat) (e : Env) (j : Nat), j < e.length → e.length = e0.length → (backE e0 e own)[j]? = if j ∈ own then e0[j]? else e[j]?
  | [], e, j, _, _ => by simp [backE]
  | i :: r, e, j, h, hl => by
    rw [backE, back_get e0 r (e.set i (e0.getD i .dead)) j (by rw [List.length_set]; exact h) (by rw [List.length_set]; exact hl)]
    by_cases q : j ∈ r
    · rw [if_pos q, if_pos (List.mem_cons_of_mem _ q)]
    · rw [if_neg q]
      by_cases p : i = j
      · subst p
        rw [if_pos List.mem_cons_self, List.getElem?_set_self h]
        rw [List.getD_eq_getElem?_getD, List.getElem?_eq_getElem (by omega)]; rfl
      · rw [List.getElem?_set_ne p, if_neg (by simp [q]; exact fun w => p w.symm)]
theorem back_wipe (e e' : Env) (own : List Nat) (h : e' = wipeE e own) : backE e e' own = e := by
  subst h
  apply List.ext_getElem?
  intro j
  by_cases q : j < e.length
  · rw [back_get e own _ j (by rw [wipe_len]; exact q) (wipe_len e own)]
    split
    · rfl
    · rename_i n; exact wipe_get e own j n
  · rw [List.getElem?_eq_none (by rw [back_len, wipe_len]; omega), List.getElem?_eq_none (by omega)]
theorem lc_pure (g : Gl) {it cs el : T} {e : Env} {v : EV} (f : α → PV) (p : α → Bool) (h : α → PV) (xs : List α) (hi : evI g it e = .ok (v, xs.map f) e) (ho : (own.all (plainAt e) && rootOut own v) = true) (hl : xs.length ≤ 1000000)
    (st : ∀ x ∈ xs, lcTurn tg own (evT g cs) (evE g el) (f x) (wipeE e own) = .ok (if p x then some (h x) else none) (wipeE e own)) :
    evE g (.lc own it tg cs el) e = .ok (.sl (.olst ((xs.filter p).map h))) e := by
  rw [ev_lc, hi, bind_ok]
  unfold kLc
  dsimp only
  rw [if_pos ho]
  have go : ∀ (ys acc : List _), acc.length + ys.length ≤ lim → (∀ x ∈ ys, x ∈ xs) → lcL tg own (fun e1 => sameAt (wipeE e own) e1 v) (evT g cs) (evE g el) (ys.map f) acc (wipeE e own) = .ok (acc ++ (ys.filter p).map h) (wipeE e own) := by
    intro ys
    induction ys with
    | nil => intro acc _ _; simp [lcL]
    | cons y ys ih =>
      intro acc ha hy
      rw [List.length_cons] at ha
      rw [List.map_cons, lcL_turn _ _ _ _ (st y (hy y List.mem_cons_self)) (by cases v <;> simp) (by omega), ih _ (by
        cases p y <;> simp <;> omega) fun x hx => hy x (List.mem_cons_of_mem _ hx)]
      cases q : p y <;> simp [q]
  rw [go xs [] (by simpa using le_lim hl) fun _ h => h]
  dsimp only
  rw [back_wipe e _ own rfl]
  rfl
theorem lc_rule (g : Gl) {it cs el : T} {e e0 : Env} {v : EV} (f : α → PV) (xs : List α) (I : List PV → List α → Env → Prop) (P : R EV → Prop) (hi : evI g it e0 = .ok (v, xs.map f) e) (ho : (own.all (plainAt e) && rootOut own v) = true) (hl : xs.length ≤ 1000000)
    (h0 : I [] xs (wipeE e own))
    (st : ∀ acc x post e1, I acc (x :: post) e1 → ∃ o e2, lcTurn tg own (evT g cs) (evE g el) (f x) e1 = .ok o e2 ∧ sameAt (wipeE e own) e2 v = true ∧ I (acc ++ o.toList) post e2)
    (fin : ∀ acc e1, I acc [] e1 → P (.ok (.sl (.olst acc)) (backE e e1 own))) :
    P (evE g (.lc own it tg cs el) e0) := by
  rw [ev_lc, hi, bind_ok]
  unfold kLc
  dsimp only
  rw [if_pos ho]
  have go : ∀ (ys : List α) (acc : List PV) (e1 : Env), acc.length + ys.length ≤ lim → I acc ys e1 → ∃ acc' e2, lcL tg own (fun e1 => sameAt (wipeE e own) e1 v) (evT g cs) (evE g el) (ys.map f) acc e1 = .ok acc' e2 ∧ I acc' [] e2 := by
    intro ys
    induction ys with
    | nil => intro acc e1 _ h; exact ⟨acc, e1, by simp [lcL], h⟩
    | cons y ys ih =>
      intro acc e1 ha h
      rw [List.length_cons] at ha
      obtain ⟨o, e2, h1, h2, h3⟩ := st acc y ys e1 h
      obtain ⟨acc', e3, h4, h5⟩ := ih (acc ++ o.toList) e2 (by cases o <;> simp <;> omega) h3
      exact ⟨acc', e3, by rw [List.map_cons, lcL_turn _ _ _ _ h1 h2 (by omega), h4], h5⟩
  obtain ⟨acc, e2, h1, h2⟩ := go xs [] _ (by simpa using le_lim hl) h0
  rw [h1]
  exact fin acc e2 h2
end
section
variable {α : Type} {g : Gl} {tg it t b : T} {P : SR → Prop}
theorem for_P {v : EV} (f : α → PV) (xs : List α) {e : Env} (hi : evI g it e = .ok (v, xs.map f) e) (I : List α → List α → Env → Prop) (h0 : I [] xs e)
    (st : ∀ pre x post e1, xs = pre ++ x :: post → I pre (x :: post) e1 → Turn (fun e2 => sameAt e e2 v) (I (pre ++ [x]) post) P (asgB (evS g b) (asgT tg (f x) e1)))
    (fin : ∀ e1, I xs [] e1 → P (.nx e1)) : P (evS g (.sfor tg it b) e) := by
  rw [es_for, hi, of_ok]
  refine for_rule f (fun pre post e => xs = pre ++ post ∧ I pre post e) P xs [] e ⟨rfl, h0⟩ ?_ ?_
  · rintro pre x post e1 ⟨h, hI⟩
    have := st pre x post e1 h hI
    generalize asgB (evS g b) (asgT tg (f x) e1) = r at this
    cases this with
    | nx e2 h1 h2 => exact .nx e2 h1 ⟨by simp [h], h2⟩
    | ct e2 h1 h2 => exact .ct e2 h1 ⟨by simp [h], h2⟩
    | bk e2 h2 => exact .bk e2 h2
    | rt s e2 h2 => exact .rt s e2 h2
    | exc x e2 h2 => exact .exc x e2 h2
  · rintro pre e1 ⟨h, hI⟩
    rw [List.append_nil] at h
    subst h
    exact fin e1 hI
theorem whl_P (I : Env → Prop) (μ : Env → Nat) {e : Env} (h0 : I e) (hm : μ e < g.wf)
    (st : ∀ e, I e → ∃ k e1, evT g t e = .ok k e1 ∧ (k = false → P (.nx e1)) ∧ (k = true → Turn (fun _ => true) (fun e2 => I e2 ∧ μ e2 < μ e) P (evS g b e1))) : P (evS g (.whl t b) e) := by
  rw [es_whl]
  exact whl_rule I μ P st g.wf e h0 hm
end
section
variable {g : Gl} {a b : T} {e : Env} {m : List Bool} {as : List Slot} {P : CR → Prop}
theorem seq_step (e1 : Env) (h : evS g a e = .nx e1) (k : P (fin m as (evS g b e1))) : P (fin m as (evS g (.seq a b) e)) := by
  rw [es_seq, h]; exact k
theorem seq_ex {α : Type} (E : α → Env) (Q : α → Prop) (h : ∃ x, evS g a e = .nx (E x) ∧ Q x) (k : ∀ x, Q x → P (fin m as (evS g b (E x)))) : P (fin m as (evS g (.seq a b) e)) := by
  obtain ⟨x, h1, h2⟩ := h
  rw [es_seq, h1]; exact k x h2
theorem seq_eq {r : SR} (h : evS g a e = r) (k : P (fin m as (r.then (evS g b)))) : P (fin m as (evS g (.seq a b) e)) := by
  rw [es_seq, h]; exact k
theorem nx_seq {N : Env → Prop} (h : Nx N (evS g a e)) (k : ∀ e1, N e1 → P (fin m as (evS g b e1))) : P (fin m as (evS g (.seq a b) e)) := by
  obtain ⟨e1, h1, h2⟩ := nx_elim h
  rw [es_seq, h1]; exact k e1 h2
theorem ends_seq {N : Env → Prop} {T : Slot → Env → Prop} (h : Ends N T (evS g a e)) (k : ∀ e1, N e1 → P (fin m as (evS g b e1))) (kt : ∀ s e1, T s e1 → P (fin m as (.rt s e1))) : P (fin m as (evS g (.seq a b) e)) := by
  rcases ends_elim h with ⟨e1, h1, h2⟩ | ⟨s, e1, h1, h2⟩
  · rw [es_seq, h1]; exact k e1 h2
  · rw [es_seq, h1]; exact kt s e1 h2
theorem nx_seqS {P : SR → Prop} {N : Env → Prop} (h : Nx N (evS g a e)) (k : ∀ e1, N e1 → P (evS g b e1)) : P (evS g (.seq a b) e) := by
  obtain ⟨e1, h1, h2⟩ := nx_elim h
  rw [es_seq, h1]; exact k e1 h2
theorem seq_stepS {P : SR → Prop} (e1 : Env) (h : evS g a e = .nx e1) (k : P (evS g b e1)) : P (evS g (.seq a b) e) := by
  rw [es_seq, h]; exact k
theorem run_then {r : CR} {f : Nat} {t : Tab} {n : Nat} (h : sem t n f as = r) (k : P r) : P (sem t n f as) := h ▸ k
end
end RF
namespace RF
open Rp (rep)
open PySem
def rg2 (a b : Int) : List Int := (List.range (Builtin.Range.rangeSize a b 2).toNat).map fun k : Nat => a + (k : Int) * 2
theorem rg2_mem {a b x : Int} : x ∈ rg2 a b ↔ a ≤ x ∧ x < b ∧ (x - a) % 2 = 0 := by
  unfold rg2 Builtin.Range.rangeSize
  rw [if_pos (by decide), List.mem_map]
  constructor
  · rintro ⟨k, hk, rfl⟩
    rw [List.mem_range] at hk
    split at hk <;> omega
  · rintro ⟨h1, h2, h3⟩
    refine ⟨((x - a) / 2).toNat, ?_, by omega⟩
    rw [List.mem_range, if_pos (by omega)]
    omega
theorem rng3Of_2 (a b : Int) (h : sm a) (h2 : sm b) : rng3Of [.int a, .int b, .int 2] = some ((rg2 a b).map rep) := by
  have e : rng3V a 2 (Builtin.Range.rangeSize a b 2).toNat = (rg2 a b).map rep := by rw [rng3V_rg]; rfl
  rw [← e]
  refine if_pos ⟨by decide, by decide, ?_, ?_⟩
  · unfold sm at *
    have fl : ∀ i : Int, i ≤ 3000000 → -i ≤ 3000000 → Builtin.Range.rangeFitsLong i = true := by
      intro i h1 h2
      unfold Builtin.Range.rangeFitsLong
      rw [Bool.and_eq_true]
      exact ⟨decide_eq_true (by omega), decide_eq_true (by omega)⟩
    unfold Builtin.Range.small Builtin.Range.rangeSize
    simp only [show ((2 : Int) > 0) = True from by simp, if_true]
    rw [fl a (by omega) (by omega), fl b (by omega) (by omega), fl 2 (by omega) (by omega), fl (b + (2 - 1)) (by omega) (by omega)]
    split
    · rw [fl _ (by omega) (by omega)]; simp
    · rw [fl _ (by omega) (by omega)]; simp
  · unfold Builtin.Range.rangeSize
    rw [if_pos (by decide)]
    split <;> omega
@[simp] theorem rng3K_2 (e : Env) (a b : Int) (h : sm a) (h2 : sm b) : rng3K e (some [.int a, .int b, .int 2]) = .ok (.sl (.val .non), (rg2 a b).map rep) e := by
  unfold rng3K; dsimp only; rw [rng3Of_2 a b h h2]
theorem for_all {α : Type} {g : Gl} {tg it b : T} {v : EV} (f : α → PV) (xs : List α) {e : Env} (hi : evI g it e = .ok (v, xs.map f) e) (q : α → Bool) (N : Env → Prop) (T : Slot → Env → Prop) (h0 : N e)
    (st : ∀ x ∈ xs, ∀ e1, N e1 → (q x = true → ∃ e2, (asgB (evS g b) (asgT tg (f x) e1) = .nx e2 ∨ asgB (evS g b) (asgT tg (f x) e1) = .ct e2) ∧ sameAt e e2 v = true ∧ N e2) ∧ (q x = false → ∃ s e2, asgB (evS g b) (asgT tg (f x) e1) = .rt s e2 ∧ T s e2)) :
    Ends (fun e1 => N e1 ∧ xs.all q = true) (fun s e1 => T s e1 ∧ xs.all q = false) (evS g (.sfor tg it b) e) := by
  refine for_P f xs hi (fun pre post e1 => N e1 ∧ pre.all q = true) ⟨h0, rfl⟩ ?_ ?_
  · rintro pre x post e1 he ⟨h1, h2⟩
    obtain ⟨s1, s2⟩ := st x (by rw [he]; simp) e1 h1
    cases z : q x with
    | true =>
      obtain ⟨e2, h3 | h3, h4, h5⟩ := s1 z
      · exact turn_go e2 h3 h4 ⟨h5, by simp [h2, z]⟩
      · exact turn_ct' e2 h3 h4 ⟨h5, by simp [h2, z]⟩
    | false =>
      obtain ⟨s, e2, h3, h4⟩ := s2 z
      exact turn_end s e2 h3 (.rt s e2 ⟨h4, by rw [he]; simp [z]⟩)
  · rintro e1 ⟨h1, h2⟩
    exact .nx e1 ⟨h1, h2⟩
end RF
namespace RF
open Rp (rep)
@[simp] theorem toNat_2 (k : Nat) : ((k : Int) + 1 + 1).toNat = k + 1 + 1 := by omega
@[simp] theorem toNat_2' (k : Nat) : ((k : Int) + 2).toNat = k + 2 := by omega
@[simp] theorem toNat_3' (k : Nat) : ((k : Int) + 3).toNat = k + 3 := by omega
end RF
namespace RF
open Rp (rep)
section
variable {g : Gl} {a b : T} {e : Env} {m : List Bool} {as : List Slot} {c : CR}
theorem stepE (e1 : Env) (h : evS g a e = .nx e1) (k : fin m as (evS g b e1) = c) : fin m as (evS g (.seq a b) e) = c := by
  rw [es_seq, h]; exact k
theorem nxE {N : Env → Prop} (h : Nx N (evS g a e)) (k : ∀ e1, N e1 → fin m as (evS g b e1) = c) : fin m as (evS g (.seq a b) e) = c := by
  obtain ⟨e1, h1, h2⟩ := nx_elim h
  rw [es_seq, h1]; exact k e1 h2
theorem endsE {N : Env → Prop} {T : Slot → Env → Prop} (h : Ends N T (evS g a e)) (k : ∀ e1, N e1 → fin m as (evS g b e1) = c) (kt : ∀ s e1, T s e1 → fin m as (.rt s e1) = c) : fin m as (evS g (.seq a b) e) = c := by
  rcases ends_elim h with ⟨e1, h1, h2⟩ | ⟨s, e1, h1, h2⟩
  · rw [es_seq, h1]; exact k e1 h2
  · rw [es_seq, h1]; exact kt s e1 h2
end
end RF
namespace RF
open Rp (rep)
@[simp] theorem eqvL_rep {α : Type} [Rp α] [DecidableEq α] (xs ys : List α) : eqvL (xs.map rep) (ys.map rep) = decide (xs = ys) := by
  rw [Bool.eq_iff_iff, eqL_map, decide_eq_true_eq]
@[simp high] theorem all_ok_i3 (xs : List I3) (n : Nat) : (xs.map rep).all (okN (n + 1)) = true := okAll (show 1 ≤ n + 1 by omega) xs
end RF
namespace RF
open Rp (rep)
@[simp] theorem o1_srt_i (xs : List Int) (a : Int) : op1 .sorted (.lst (xs.map rep ++ [.int a])) = some (.olst ((sortD (xs ++ [a])).map rep)) := by
  have := o1_srt (xs ++ [a]); rwa [List.map_append] at this
@[simp] theorem o1_srtt_i (xs : List Int) (a : Int) : op1 .sorted (.tup (xs.map rep ++ [.int a])) = some (.olst ((sortD (xs ++ [a])).map rep)) := by
  have := o1_srtt (xs ++ [a]); rwa [List.map_append] at this
@[simp] theorem o1_srt_ii (xs : List (Int × Int)) (a b : Int) : op1 .sorted (.lst (xs.map rep ++ [.tup [.int a, .int b]])) = some (.olst ((sortD (xs ++ [(a, b)])).map rep)) := by
  have := o1_srt (xs ++ [(a, b)]); rwa [List.map_append] at this
class Ky (α : Type) extends Rp α where
  ky : ∀ a b : α, famK (rep a) (rep b) = true
instance : Ky Int where
  ky := fun _ _ => rfl
def dmap {α β : Type} [Rp α] (f : β → PV) (D : List (α × β)) : List (PV × PV) := D.map fun p => (rep p.1, f p.2)
section
variable {α β : Type} [Ky α] [DecidableEq α] (f : β → PV) (D : List (α × β)) (k : α) (v : β)
@[simp] theorem dmap_len : (dmap f D).length = D.length := by simp [dmap]
theorem dmap_nil : dmap f ([] : List (α × β)) = [] := (rfl)
theorem dmap_snoc : dmap f (D ++ [(k, v)]) = dmap f D ++ [(rep k, f v)] := by simp [dmap]
@[simp] theorem dKeyOk_map : dKeyOk (dmap f D) (rep k) = true := by
  unfold dKeyOk dmap
  rw [Ky.ky, Bool.true_and, List.all_map, List.all_eq_true]
  exact fun p _ => Ky.ky _ _
theorem dGet_map : dGet (dmap f D) (rep k) = (D.find? fun p => decide (p.1 = k)).map fun p => f p.2 := by
  unfold dGet dmap
  induction D with
  | nil => rfl
  | cons p r ih =>
    rw [List.map_cons, List.find?_cons, List.find?_cons]
    by_cases c : p.1 = k
    · rw [c]; simp
    · have c' : ¬ (rep p.1 : PV) = rep k := fun e => c (rep_inj e)
      simp only [decide_eq_false c, decide_eq_false c']
      exact ih
theorem dGet_some : (dGet (dmap f D) (rep k)).isSome = decide (k ∈ D.map (·.1)) := by
  rw [dGet_map, Option.isSome_map, Bool.eq_iff_iff, List.find?_isSome, decide_eq_true_iff, List.mem_map]
  constructor
  · rintro ⟨p, hp, e⟩; exact ⟨p, hp, of_decide_eq_true e⟩
  · rintro ⟨p, hp, e⟩; exact ⟨p, hp, decide_eq_true e⟩
theorem dPut_new (h : k ∉ D.map (·.1)) : dPut (dmap f D) (rep k) (f v) = dmap f (D ++ [(k, v)]) := by
  unfold dPut
  rw [if_neg, dmap_snoc]
  rw [List.any_eq_true]
  rintro ⟨p, hp, e⟩
  unfold dmap at hp
  obtain ⟨q, hq, rfl⟩ := List.mem_map.mp hp
  exact h (List.mem_map.mpr ⟨q, hq, rep_inj (of_decide_eq_true e)⟩)
end
section
variable (kvs : List (PV × PV)) (a : PV)
@[simp] theorem o2_in_dic : op2 .isIn a (.dic kvs) = if dKeyOk kvs a then some (.val (.bl (dGet kvs a).isSome)) else none := by cases a <;> rfl
@[simp] theorem o2_nin_dic : op2 .notIn a (.dic kvs) = if dKeyOk kvs a then some (.val (.bl (!(dGet kvs a).isSome))) else none := by cases a <;> rfl
@[simp] theorem o2_idx_dic : op2 .idx (.dic kvs) a = if dKeyOk kvs a then (dGet kvs a).map .val else none := by cases a <;> rfl
@[simp] theorem o1_len_dic : op1 .len (.dic kvs) = if kvs.all fun p => flatK p.1 then some (.val (.int kvs.length)) else none := (rfl)
end
def dcT2 (own : List Nat) (k : PV) : R EV → R (Option (PV × PV))
  | .ok (.sl s) e => if live s then .ok (some (k, frz s)) (wipeE e own) else .bad
  | _ => .bad
def dcT1 (own : List Nat) (ve : Env → R EV) : R EV → R (Option (PV × PV))
  | .ok (.sl (.val k)) e => dcT2 own k (ve e)
  | _ => .bad
def dcT0 (own : List Nat) (ke ve : Env → R EV) : R Bool → R (Option (PV × PV))
  | .ok k e => bif k then dcT1 own ve (ke e) else .ok none (wipeE e own)
  | _ => .bad
@[simp] theorem dcT2_sl (own : List Nat) (k : PV) (s : Slot) (e : Env) : dcT2 own k (.ok (.sl s) e) = if live s then .ok (some (k, frz s)) (wipeE e own) else .bad := (rfl)
@[simp] theorem dcT1_sl (own : List Nat) (ve : Env → R EV) (k : PV) (e : Env) : dcT1 own ve (.ok (.sl (.val k)) e) = dcT2 own k (ve e) := (rfl)
@[simp] theorem dcT0_ok (own : List Nat) (ke ve : Env → R EV) (k : Bool) (e : Env) : dcT0 own ke ve (.ok k e) = bif k then dcT1 own ve (ke e) else .ok none (wipeE e own) := (rfl)
def dcTurn (tg : T) (own : List Nat) (c : Env → R Bool) (ke ve : Env → R EV) (x : PV) (e : Env) : R (Option (PV × PV)) := match asgT tg x e with
  | some e' => dcT0 own ke ve (c e')
  | none => .bad
theorem dcL_turn {tg : T} {own : List Nat} {ck : Env → Bool} {c : Env → R Bool} {ke ve : Env → R EV} (x : PV) (xs : List PV) (acc : List (PV × PV)) (e : Env) {o : Option (PV × PV)} {e' : Env} (h : dcTurn tg own c ke ve x e = .ok o e') (hk : ck e' = true) (ho : ∀ p, o = some p → dKeyOk acc p.1 = true) (hl : acc.length < lim) :
    dcL tg own ck c ke ve (x :: xs) acc e = dcL tg own ck c ke ve xs (match o with | some p => dPut acc p.1 p.2 | none => acc) e' := by
  unfold dcTurn at h
  rw [dcL]
  cases z1 : asgT tg x e with
  | none => rw [z1] at h; cases h
  | some e1 =>
    rw [z1] at h
    dsimp only at h ⊢
    cases z2 : c e1 with
    | exc _ _ => rw [z2] at h; cases h
    | bad => rw [z2] at h; cases h
    | ok b e2 =>
      rw [z2] at h
      cases b with
      | false =>
        have h' : R.ok (none : Option (PV × PV)) (wipeE e2 own) = .ok o e' := h
        cases h'
        dsimp only
        rw [if_pos hk]
      | true =>
        have h' : dcT1 own ve (ke e2) = .ok o e' := h
        dsimp only
        cases z3 : ke e2 with
        | exc _ _ => rw [z3] at h'; cases h'
        | bad => rw [z3] at h'; cases h'
        | ok kv e3 =>
          rw [z3] at h'
          cases kv with
          | pl _ _ => cases h'
          | sl s =>
            cases s with
            | val k =>
              have h2 : dcT2 own k (ve e3) = .ok o e' := h'
              dsimp only
              cases z4 : ve e3 with
              | exc _ _ => rw [z4] at h2; cases h2
              | bad => rw [z4] at h2; cases h2
              | ok vv e4 =>
                rw [z4] at h2
                cases vv with
                | pl _ _ => cases h2
                | sl s =>
                  have h3 : (if live s then R.ok (some (k, frz s)) (wipeE e4 own) else .bad) = .ok o e' := h2
                  by_cases l : live s = true
                  · rw [if_pos l] at h3
                    cases h3
                    dsimp only
                    rw [if_pos]
                    have := ho _ rfl
                    dsimp only at this
                    rw [l, this, hk, decide_eq_true hl]
                    rfl
                  · rw [if_neg l] at h3; cases h3
            | _ => cases h'
theorem dc_pure {α κ β : Type} [Ky κ] [DecidableEq κ] (g : Gl) {it cs ke ve tg : T} {own : List Nat} {e : Env} {v : EV} (f : α → PV) (kf : α → κ) (vf : α → β) (w : β → PV) (xs : List α) (hi : evI g it e = .ok (v, xs.map f) e) (ho : (own.all (plainAt e) && rootOut own v) = true) (hl : xs.length ≤ 1000000) (nd : (xs.map kf).Nodup)
    (st : ∀ x ∈ xs, dcTurn tg own (evT g cs) (evE g ke) (evE g ve) (f x) (wipeE e own) = .ok (some (rep (kf x), w (vf x))) (wipeE e own)) :
    evE g (.dlc own it tg cs ke ve) e = .ok (.sl (.odic (dmap w (xs.map fun x => (kf x, vf x))))) e := by
  rw [ev_dlc, hi]
  show kDc own tg (evT g cs) (evE g ke) (evE g ve) (v, xs.map f) e = _
  unfold kDc
  rw [if_pos ho]
  have go : ∀ (ys pre : List α), pre ++ ys = xs → dcL tg own (fun e1 => sameAt (wipeE e own) e1 v) (evT g cs) (evE g ke) (evE g ve) (ys.map f) (dmap w (pre.map fun x => (kf x, vf x))) (wipeE e own) = .ok (dmap w (xs.map fun x => (kf x, vf x))) (wipeE e own) := by
    intro ys
    induction ys with
    | nil => intro pre h; rw [List.append_nil] at h; subst h; rw [List.map_nil, dcL]
    | cons y ys ih =>
      intro pre h
      have hy : y ∈ xs := by rw [← h]; simp
      have hp : pre.length < xs.length := by rw [← h]; simp
      have hn : kf y ∉ (pre.map fun x => (kf x, vf x)).map (·.1) := by
        rw [← h, List.map_append, List.nodup_append] at nd
        rw [List.map_map]
        intro q
        exact nd.2.2 (kf y) q (kf y) (by simp) rfl
      rw [List.map_cons, dcL_turn _ _ _ _ (st y hy) (by cases v <;> simp) (fun p e => by cases e; exact dKeyOk_map _ _ _) (by simp only [dmap_len, List.length_map]; exact Nat.lt_of_lt_of_le (Nat.lt_of_lt_of_le hp hl) (by decide))]
      dsimp only
      rw [dPut_new _ _ _ _ hn]
      have := ih (pre ++ [y]) (by rw [← h]; simp)
      rw [List.map_append] at this
      exact this
  have e0 := go xs [] rfl
  rw [List.map_nil, dmap_nil] at e0
  dsimp only
  rw [e0]
  dsimp only
  rw [back_wipe _ _ _ rfl]
theorem for_Q {α : Type} {g : Gl} {tg it b : T} {P : SR → Prop} {v : EV} (f : α → PV) (xs : List α) {e0 e : Env} (hi : evI g it e0 = .ok (v, xs.map f) e) (I : List α → List α → Env → Prop) (h0 : I [] xs e)
    (st : ∀ pre x post e1, xs = pre ++ x :: post → I pre (x :: post) e1 → Turn (fun e2 => sameAt e e2 v) (I (pre ++ [x]) post) P (asgB (evS g b) (asgT tg (f x) e1)))
    (fin : ∀ e1, I xs [] e1 → P (.nx e1)) : P (evS g (.sfor tg it b) e0) := by
  rw [es_for, hi, of_ok]
  refine for_rule f (fun pre post e => xs = pre ++ post ∧ I pre post e) P xs [] e ⟨rfl, h0⟩ ?_ ?_
  · rintro pre x post e1 ⟨h, hI⟩
    have := st pre x post e1 h hI
    generalize asgB (evS g b) (asgT tg (f x) e1) = r at this
    cases this with
    | nx e2 h1 h2 => exact .nx e2 h1 ⟨by simp [h], h2⟩
    | ct e2 h1 h2 => exact .ct e2 h1 ⟨by simp [h], h2⟩
    | bk e2 h2 => exact .bk e2 h2
    | rt s e2 h2 => exact .rt s e2 h2
    | exc x e2 h2 => exact .exc x e2 h2
  · rintro pre e1 ⟨h, hI⟩
    rw [List.append_nil] at h
    subst h
    exact fin e1 hI
end RF
set_option maxHeartbeats 0
namespace LW
open PySem PySem.Spec PyProof.Rows L2
def top (i : Nat) : PySem.Stmt := PySem.Challenge.pw_setnotseen_k00_webs.main.body.getD i (.Pass ⟨0, 0, 0, 0⟩)
def d0 : RF.DI := ⟨("BadWeb", some "__init__"), "__init__", "BadWeb.__init__", defArgs (inClass (top 2) 0), defBody (inClass (top 2) 0), defScope (inClass (top 2) 0), ["self", "part"], ["self", "part"]⟩
def d1 : RF.DI := ⟨("is_integer", none), "is_integer", "is_integer", defArgs (top 6), defBody (top 6), defScope (top 6), ["thing"], ["thing"]⟩
def d2 : RF.DI := ⟨("is_between", none), "is_between", "is_between", defArgs (top 7), defBody (top 7), defScope (top 7), ["thing", "least", "most"], ["thing", "least", "most"]⟩
def d3 : RF.DI := ⟨("is_under", none), "is_under", "is_under", defArgs (top 8), defBody (top 8), defScope (top 8), ["thing", "many"], ["thing", "many"]⟩
def d4 : RF.DI := ⟨("are_rising", none), "are_rising", "are_rising", defArgs (top 9), defBody (top 9), defScope (top 9), ["some"], ["some", "at"]⟩
def d5 : RF.DI := ⟨("is_lot", none), "is_lot", "is_lot", defArgs (top 10), defBody (top 10), defScope (top 10), ["thing", "many"], ["thing", "many", "one"]⟩
def d6 : RF.DI := ⟨("is_arrow", none), "is_arrow", "is_arrow", defArgs (top 14), defBody (top 14), defScope (top 14), ["many", "thing"], ["many", "thing"]⟩
def d7 : RF.DI := ⟨("are_pairs", none), "are_pairs", "are_pairs", defArgs (top 15), defBody (top 15), defScope (top 15), ["many", "thing"], ["many", "thing", "one"]⟩
def d8 : RF.DI := ⟨("ordered", none), "ordered", "ordered", defArgs (top 16), defBody (top 16), defScope (top 16), ["many", "arrows"], ["many", "arrows", "out", "ready", "one", "a", "b"]⟩
def d9 : RF.DI := ⟨("Web", some "__init__"), "__init__", "Web.__init__", defArgs (inClass (top 17) 0), defBody (inClass (top 17) 0), defScope (inClass (top 17) 0), ["self", "many", "arrows", "ties"], ["self", "many", "arrows", "ties", "a", "b"]⟩
def d10 : RF.DI := ⟨("Web", some "__eq__"), "__eq__", "Web.__eq__", defArgs (inClass (top 17) 1), defBody (inClass (top 17) 1), defScope (inClass (top 17) 1), ["self", "other"], ["self", "other"]⟩
def d11 : RF.DI := ⟨("is_variable", none), "is_variable", "is_variable", defArgs (top 18), defBody (top 18), defScope (top 18), ["web", "thing"], ["web", "thing"]⟩
def d12 : RF.DI := ⟨("need_variable", none), "need_variable", "need_variable", defArgs (top 19), defBody (top 19), defScope (top 19), ["web", "thing"], ["web", "thing"]⟩
def d13 : RF.DI := ⟨("need_lot", none), "need_lot", "need_lot", defArgs (top 20), defBody (top 20), defScope (top 20), ["web", "thing"], ["web", "thing"]⟩
def d14 : RF.DI := ⟨("every_one", none), "every_one", "every_one", defArgs (top 21), defBody (top 21), defScope (top 21), ["web"], ["web"]⟩
def d15 : RF.DI := ⟨("order_of", none), "order_of", "order_of", defArgs (top 22), defBody (top 22), defScope (top 22), ["web"], ["web"]⟩
def d16 : RF.DI := ⟨("parents_of", none), "parents_of", "parents_of", defArgs (top 23), defBody (top 23), defScope (top 23), ["web", "variable"], ["web", "variable", "a", "b"]⟩
def d17 : RF.DI := ⟨("parents", none), "parents", "parents", defArgs (top 24), defBody (top 24), defScope (top 24), ["web", "variable"], ["web", "variable"]⟩
def d18 : RF.DI := ⟨("led_from", none), "led_from", "led_from", defArgs (top 25), defBody (top 25), defScope (top 25), ["pairs", "lot", "inside"], ["pairs", "lot", "inside", "known", "waiting", "one", "a", "b"]⟩
def d19 : RF.DI := ⟨("above_in", none), "above_in", "above_in", defArgs (top 26), defBody (top 26), defScope (top 26), ["web", "lot", "inside"], ["web", "lot", "inside", "a", "b"]⟩
def d20 : RF.DI := ⟨("above", none), "above", "above", defArgs (top 27), defBody (top 27), defScope (top 27), ["web", "lot"], ["web", "lot"]⟩
def d21 : RF.DI := ⟨("below_in", none), "below_in", "below_in", defArgs (top 28), defBody (top 28), defScope (top 28), ["web", "lot", "inside"], ["web", "lot", "inside"]⟩
def d22 : RF.DI := ⟨("below", none), "below", "below", defArgs (top 29), defBody (top 29), defScope (top 29), ["web", "lot"], ["web", "lot"]⟩
def d23 : RF.DI := ⟨("both_ways", none), "both_ways", "both_ways", defArgs (top 30), defBody (top 30), defScope (top 30), ["pairs"], ["pairs", "a", "b"]⟩
def d24 : RF.DI := ⟨("district_in", none), "district_in", "district_in", defArgs (top 31), defBody (top 31), defScope (top 31), ["web", "lot", "variable"], ["web", "lot", "variable"]⟩
def d25 : RF.DI := ⟨("districts_in", none), "districts_in", "districts_in", defArgs (top 32), defBody (top 32), defScope (top 32), ["web", "lot"], ["web", "lot", "one"]⟩
def d26 : RF.DI := ⟨("districts", none), "districts", "districts", defArgs (top 33), defBody (top 33), defScope (top 33), ["web", "lot"], ["web", "lot"]⟩
def d27 : RF.DI := ⟨("set_in", none), "set_in", "set_in", defArgs (top 34), defBody (top 34), defScope (top 34), ["web", "lot"], ["web", "lot", "arrows", "ties", "a", "b"]⟩
def d28 : RF.DI := ⟨("set_web", none), "set_web", "set_web", defArgs (top 35), defBody (top 35), defScope (top 35), ["web", "lot"], ["web", "lot"]⟩
def d29 : RF.DI := ⟨("shut_in", none), "shut_in", "shut_in", defArgs (top 36), defBody (top 36), defScope (top 36), ["web", "lot"], ["web", "lot", "a", "b"]⟩
def d30 : RF.DI := ⟨("shut_web", none), "shut_web", "shut_web", defArgs (top 37), defBody (top 37), defScope (top 37), ["web", "lot"], ["web", "lot"]⟩
def d31 : RF.DI := ⟨("_law_draws", none), "_law_draws", "_law_draws", defArgs (top 39), defBody (top 39), defScope (top 39), ["script", "many"], ["script", "many", "row", "big", "seed", "k", "cell"]⟩
def d32 : RF.DI := ⟨("_law_take", none), "_law_take", "_law_take", defArgs (top 40), defBody (top 40), defScope (top 40), ["draws", "many"], ["draws", "many"]⟩
def d33 : RF.DI := ⟨("_law_order", none), "_law_order", "_law_order", defArgs (top 41), defBody (top 41), defScope (top 41), ["draws", "many"], ["draws", "many", "left", "out", "k"]⟩
def d34 : RF.DI := ⟨("_law_web", none), "_law_web", "_law_web", defArgs (top 42), defBody (top 42), defScope (top 42), ["draws", "many", "thick", "tied"], ["draws", "many", "thick", "tied", "order", "arrows", "ties", "i", "j"]⟩
def d35 : RF.DI := ⟨("_law_lot", none), "_law_lot", "_law_lot", defArgs (top 43), defBody (top 43), defScope (top 43), ["draws", "many"], ["draws", "many", "one"]⟩
def d36 : RF.DI := ⟨("_law_above", none), "_law_above", "_law_above", defArgs (top 44), defBody (top 44), defScope (top 44), ["web", "lot", "inside"], ["web", "lot", "inside", "out", "turn", "arrow"]⟩
def d37 : RF.DI := ⟨("_law_district", none), "_law_district", "_law_district", defArgs (top 45), defBody (top 45), defScope (top 45), ["web", "lot", "variable"], ["web", "lot", "variable", "out", "turn", "tie", "k"]⟩
def d38 : RF.DI := ⟨("_law_districts", none), "_law_districts", "_law_districts", defArgs (top 46), defBody (top 46), defScope (top 46), ["web", "lot"], ["web", "lot", "out", "variable", "found"]⟩
def d39 : RF.DI := ⟨("_law_set", none), "_law_set", "_law_set", defArgs (top 47), defBody (top 47), defScope (top 47), ["web", "lot"], ["web", "lot", "arrows", "ties", "arrow", "tie"]⟩
def d40 : RF.DI := ⟨("_law_shut", none), "_law_shut", "_law_shut", defArgs (top 48), defBody (top 48), defScope (top 48), ["web", "lot"], ["web", "lot", "arrow"]⟩
def d41 : RF.DI := ⟨("_law_below", none), "_law_below", "_law_below", defArgs (top 49), defBody (top 49), defScope (top 49), ["web", "lot"], ["web", "lot", "back", "arrow"]⟩
def d42 : RF.DI := ⟨("_law_first", none), "_law_first", "_law_first", defArgs (top 50), defBody (top 50), defScope (top 50), ["web"], ["web", "out", "turn", "ready", "one", "a"]⟩
def d43 : RF.DI := ⟨("_law_same", none), "_law_same", "_law_same", defArgs (top 51), defBody (top 51), defScope (top 51), ["told", "web"], ["told", "web"]⟩
def d44 : RF.DI := ⟨("law", none), "law", "law", defArgs (top 52), defBody (top 52), defScope (top 52), ["script"], ["script", "draws", "many", "web", "lot", "one", "mine", "every", "a"]⟩
def D0 : List RF.DI := [d0, d1, d2, d3, d4, d5, d6, d7, d8, d9, d10, d11, d12, d13, d14, d15, d16, d17, d18, d19, d20, d21, d22, d23, d24, d25, d26, d27, d28, d29]
def D1 : List RF.DI := [d30, d31, d32, d33, d34, d35, d36, d37, d38, d39, d40, d41, d42, d43, d44]
def D : List RF.DI := D0 ++ D1
def fns0 : List (PySem.Str × Nat) := [("is_integer", 1), ("is_between", 2), ("is_under", 3), ("are_rising", 4), ("is_lot", 5), ("is_arrow", 6), ("are_pairs", 7), ("ordered", 8), ("is_variable", 11), ("need_variable", 12), ("need_lot", 13), ("every_one", 14), ("order_of", 15), ("parents_of", 16), ("parents", 17), ("led_from", 18), ("above_in", 19), ("above", 20), ("below_in", 21), ("below", 22), ("both_ways", 23), ("district_in", 24), ("districts_in", 25), ("districts", 26), ("set_in", 27), ("set_web", 28), ("shut_in", 29), ("shut_web", 30), ("_law_draws", 31), ("_law_take", 32)]
def fns1 : List (PySem.Str × Nat) := [("_law_order", 33), ("_law_web", 34), ("_law_lot", 35), ("_law_above", 36), ("_law_district", 37), ("_law_districts", 38), ("_law_set", 39), ("_law_shut", 40), ("_law_below", 41), ("_law_first", 42), ("_law_same", 43), ("law", 44)]
def fns : List (PySem.Str × Nat) := fns0 ++ fns1
def P : RF.PTab := ⟨fns, [("ShareError", 0), ("BadWeb", 1), ("NoVariable", 2), ("NoLot", 3), ("Web", 4)], [4], [("part", 0), ("many", 1), ("arrows", 2), ("ties", 3)], [("__eq__", 0)], [4], [("MOST_VARIABLES", .int 6), ("MOST_TIES", .int 6)], [0, 1, 2, 3, 1000], [0, 2, 3], ["mine"]⟩
def T : RF.Tab := { fds := D.map fun d => d.i.fd P 40, ini := [(4, 9)], met := [(4, [(0, 10)])], xat := [(0, []), (2, []), (3, [])], att := [(4, [1, 2, 3])], wf := 4000, sup := [(0, [0, 1000]), (2, [2, 0, 1000]), (3, [3, 0, 1000])] }
def X : RF.Txt := ⟨P, T, 40, D, ["ShareError", "BadWeb", "NoVariable", "NoLot", "Web"], ["part", "many", "arrows", "ties"]⟩
def lawN : Nat := 44
def ls0 : List PySem.Str := ["ShareError", "BadWeb", "NoVariable", "NoLot", "is_integer", "is_between", "is_under", "are_rising", "is_lot", "MOST_VARIABLES", "MOST_TIES", "is_arrow", "are_pairs", "ordered", "Web", "is_variable", "need_variable", "need_lot", "every_one", "order_of", "parents_of", "parents", "led_from", "above_in", "above", "below_in", "below", "both_ways", "district_in", "districts_in"]
def ls1 : List PySem.Str := ["districts", "set_in", "set_web", "shut_in", "shut_web", "_law_draws", "_law_take", "_law_order", "_law_web", "_law_lot", "_law_above", "_law_district", "_law_districts", "_law_set", "_law_shut", "_law_below", "_law_first", "_law_same"]
def ls : List PySem.Str := ls0 ++ ls1
def fn : List He.DefD := X.D.map RF.DI.d
def ex (K : PySem.W.Frag) : Bool := RF.exB X K && (He.Fa.glo "law").ok K
abbrev R : PySem.W.OpenRow := PySem.W.OpenLaw.row PySem.Challenge.rw_setnotseen_k00_webs
abbrev hk : PySem.W.Hook := RF.hookR 5 fn ex
def ob (s : PySem.W.SharedT) : RF.AlR := RF.obsR 5 fn ex (HandSHeadRun.getT s)
theorem ob_eq (s : PySem.W.SharedT) : ob s = hk.obs s.abs := RF.obsR_eq (HandSHeadRun.getT_eq s)
theorem run (w : World) : HandSHeadRun.RunEq R (PySem.W.view R.prog [52]) hk ob 6000 ls w := by
  intro os
  kernel_rfl
theorem stX : RF.stB X = true := by kernel_rfl
def bindB : Bool := X.D.all fun d => RF.plainA d.params d.ps && RF.scB d.N d.ps d.scope
theorem bindX : bindB = true := by kernel_rfl
theorem hfd (i : Nat) : X.t.fds[i]? = (X.D[i]?).map fun d => d.i.fd X.P X.n := List.getElem?_map
theorem atD {i : Nat} {d : RF.DI} (h : X.D[i]? = some d) : (RF.plainA d.params d.ps && RF.scB d.N d.ps d.scope) = true := List.all_eq_true.mp bindX d (List.mem_of_getElem? h)
end LW
section
set_option maxHeartbeats 0
open PySem PySem.W PySem.Calls PyProof.Rows
theorem law_top (m : Nat) (hm : L2.Room (2 * m) callerA) (plain : ∀ ns : List Int, ns.length ≤ 63 → ∃ bs, RF.sem LW.X.t m LW.lawN [.val (.xls (ns.map RF.PV.int))] = .ok (.val (.bl true)) bs) : PySem.Challenge.rw_setnotseen_k00_webs.Holds := by
  w_on; o_law
  refine HandSHeadRun.head_any (r := OpenLaw.row PySem.Challenge.rw_setnotseen_k00_webs) (q := view (OpenLaw.row PySem.Challenge.rw_setnotseen_k00_webs).prog [52]) (H := LW.hk) (ob := LW.ob) (M := 6000) (loose := LW.ls) (d := HandSHeadRun.topDef (OpenLaw.row PySem.Challenge.rw_setnotseen_k00_webs).prog 52) (kwd := []) LW.ob_eq
    (by kernel_rfl) (fun s => by kernel_rfl) LW.run (by kernel_rfl) (by kernel_rfl) (by kernel_rfl) (by rfl) (by first | assumption | decide +kernel) (by decide +kernel) ⟨rfl, rfl, rfl, rfl, rfl, by decide +kernel⟩ ?hw ?hc
  case hw => w_witness2
  case hc =>
    refine L2.walk_ofE (l := PySem.Challenge.rw_setnotseen_k00_webs) (n := 63) (k := 2 * m) (x := "script") (CX := RF.CXf) rfl (by decide) (by kernel_rfl) hm ?F (fun _ _ _ _ z => z)
    intro w mg fa h Y G hmg0
    obtain ⟨K, KX, c, e⟩ := Y
    have hmg : mg ("law" : PySem.Str) = some (.ref fa) := by
      have e : (HandSHeadRun.topDef (OpenLaw.row PySem.Challenge.rw_setnotseen_k00_webs).prog 52).name = ("law" : PySem.Str) := by kernel_rfl
      rw [← e]
      exact hmg0
    have e := Bool.and_eq_true_iff.mp e
    exact RF.law_end (X := LW.X) (i := LW.lawN) LW.stX e.1 KX G c
      (fun i d hd kV doc pm an cdv ct us hl => RF.bind_plain (Bool.and_eq_true_iff.mp (LW.atD hd)).1 kV doc pm an cdv ct us hl)
      (fun i d hd => (Bool.and_eq_true_iff.mp (LW.atD hd)).2) LW.hfd (d := LW.d44) rfl rfl rfl hmg e.2 plain
end
namespace LW
set_option maxHeartbeats 0
open PySem PySem.Spec PyProof.Rows L2
open RF
abbrev c_ShareError : Nat := 0
abbrev c_BadWeb : Nat := 1
abbrev c_NoVariable : Nat := 2
abbrev c_NoLot : Nat := 3
abbrev c_Web : Nat := 4
abbrev a_part : Nat := 0
abbrev a_many : Nat := 1
abbrev a_arrows : Nat := 2
abbrev a_ties : Nat := 3
abbrev f_BadWeb_init : Nat := 0
abbrev f_is_integer : Nat := 1
abbrev f_is_between : Nat := 2
abbrev f_is_under : Nat := 3
abbrev f_are_rising : Nat := 4
abbrev f_is_lot : Nat := 5
abbrev f_is_arrow : Nat := 6
abbrev f_are_pairs : Nat := 7
abbrev f_ordered : Nat := 8
abbrev f_Web_init : Nat := 9
abbrev f_Web_eq : Nat := 10
abbrev f_is_variable : Nat := 11
abbrev f_need_variable : Nat := 12
abbrev f_need_lot : Nat := 13
abbrev f_every_one : Nat := 14
abbrev f_order_of : Nat := 15
abbrev f_parents_of : Nat := 16
abbrev f_parents : Nat := 17
abbrev f_led_from : Nat := 18
abbrev f_above_in : Nat := 19
abbrev f_above : Nat := 20
abbrev f_below_in : Nat := 21
abbrev f_below : Nat := 22
abbrev f_both_ways : Nat := 23
abbrev f_district_in : Nat := 24
abbrev f_districts_in : Nat := 25
abbrev f_districts : Nat := 26
abbrev f_set_in : Nat := 27
abbrev f_set_web : Nat := 28
abbrev f_shut_in : Nat := 29
abbrev f_shut_web : Nat := 30
abbrev f__law_draws : Nat := 31
abbrev f__law_take : Nat := 32
abbrev f__law_order : Nat := 33
abbrev f__law_web : Nat := 34
abbrev f__law_lot : Nat := 35
abbrev f__law_above : Nat := 36
abbrev f__law_district : Nat := 37
abbrev f__law_districts : Nat := 38
abbrev f__law_set : Nat := 39
abbrev f__law_shut : Nat := 40
abbrev f__law_below : Nat := 41
abbrev f__law_first : Nat := 42
abbrev f__law_same : Nat := 43
abbrev f_law : Nat := 44
def G (n : Nat) : Gl := X.t.gl (sem X.t n)
@[simp] theorem G_sem {n : Nat} : (G n).sem = sem X.t n := (rfl)
@[simp] theorem G_wf {n : Nat} : (G n).wf = 4000 := (rfl)
@[simp] theorem G_ini4 {n : Nat} : (G n).ini 4 = some 9 := (rfl)
@[simp] theorem G_met4_0 {n : Nat} : (G n).met 4 0 = some 10 := (rfl)
@[simp] theorem G_att4_1 {n : Nat} : (G n).att 4 1 = true := (rfl)
@[simp] theorem G_att4_2 {n : Nat} : (G n).att 4 2 = true := (rfl)
@[simp] theorem G_att4_3 {n : Nat} : (G n).att 4 3 = true := (rfl)
@[simp] theorem G_isx0 {n : Nat} : (G n).isx 0 = true := (rfl)
@[simp] theorem G_xat0 {n : Nat} : (G n).xat 0 = some [] := (rfl)
@[simp] theorem G_sub0_0 {n : Nat} : (G n).sub 0 0 = true := (rfl)
@[simp] theorem G_sub0_1 {n : Nat} : (G n).sub 0 1 = false := (rfl)
@[simp] theorem G_sub0_2 {n : Nat} : (G n).sub 0 2 = false := (rfl)
@[simp] theorem G_sub0_3 {n : Nat} : (G n).sub 0 3 = false := (rfl)
@[simp] theorem G_sub0_1000 {n : Nat} : (G n).sub 0 1000 = true := (rfl)
@[simp] theorem G_isx2 {n : Nat} : (G n).isx 2 = true := (rfl)
@[simp] theorem G_xat2 {n : Nat} : (G n).xat 2 = some [] := (rfl)
@[simp] theorem G_sub2_0 {n : Nat} : (G n).sub 2 0 = true := (rfl)
@[simp] theorem G_sub2_1 {n : Nat} : (G n).sub 2 1 = false := (rfl)
@[simp] theorem G_sub2_2 {n : Nat} : (G n).sub 2 2 = true := (rfl)
@[simp] theorem G_sub2_3 {n : Nat} : (G n).sub 2 3 = false := (rfl)
@[simp] theorem G_sub2_1000 {n : Nat} : (G n).sub 2 1000 = true := (rfl)
@[simp] theorem G_isx3 {n : Nat} : (G n).isx 3 = true := (rfl)
@[simp] theorem G_xat3 {n : Nat} : (G n).xat 3 = some [] := (rfl)
@[simp] theorem G_sub3_0 {n : Nat} : (G n).sub 3 0 = true := (rfl)
@[simp] theorem G_sub3_1 {n : Nat} : (G n).sub 3 1 = false := (rfl)
@[simp] theorem G_sub3_2 {n : Nat} : (G n).sub 3 2 = false := (rfl)
@[simp] theorem G_sub3_3 {n : Nat} : (G n).sub 3 3 = true := (rfl)
@[simp] theorem G_sub3_1000 {n : Nat} : (G n).sub 3 1000 = true := (rfl)
def are_rising_lc0 : RF.T := T.lc [1] (T.irng (T.cons (T.con (PV.int 1)) (T.cons (T.op1 P1.len (T.plc 0 [])) T.nil))) (T.tnm 1) T.nop (T.op2 P2.lt (T.op2 P2.idx (T.plc 0 []) (T.op2 P2.sub (T.plc 1 []) (T.con (PV.int 1)))) (T.op2 P2.idx (T.plc 0 []) (T.plc 1 [])))
def is_lot_lc0 : RF.T := T.lc [2] (T.isq (T.plc 0 [])) (T.tnm 2) T.nop (T.call 3 (T.cons (T.plc 2 []) (T.cons (T.plc 1 []) T.nil)))
def are_pairs_lc0 : RF.T := T.lc [2] (T.isq (T.plc 1 [])) (T.tnm 2) T.nop (T.call 6 (T.cons (T.plc 0 []) (T.cons (T.plc 2 []) T.nil)))
def ordered_lc1 : RF.T := T.lc [5, 6] (T.isq (T.plc 1 [])) (T.ttp (T.cons (T.tnm 5) (T.cons (T.tnm 6) T.nil))) (T.bol (T.op2 P2.eq (T.plc 6 []) (T.plc 4 []))) (T.op2 P2.isIn (T.plc 5 []) (T.plc 2 []))
def ordered_lc0 : RF.T := T.lc [4] (T.irng (T.cons (T.plc 0 []) T.nil)) (T.tnm 4) (T.andT (T.bol (T.op2 P2.notIn (T.plc 4 []) (T.plc 2 []))) (T.tru (T.op1 P1.all ordered_lc1))) (T.nam 4)
def ordered_whl0 : RF.T := T.whl (T.tru (T.con (PV.bl true))) (T.seq (T.asg (T.tnm 3) ordered_lc0) (T.seq (T.sif (T.notT (T.tru (T.plc 3 []))) (T.ret (T.op1 P1.tupleOf (T.plc 2 []))) T.nop) (T.xpr (T.mut Mut.append 2 [] (T.cons (T.op2 P2.idx (T.plc 3 []) (T.con (PV.int 0))) T.nil)))))
def Web_init_lc0 : RF.T := T.lc [4, 5] (T.isq (T.plc 3 [])) (T.ttp (T.cons (T.tnm 4) (T.cons (T.tnm 5) T.nil))) T.nop (T.op2 P2.gt (T.plc 4 []) (T.plc 5 []))
def parents_of_lc0 : RF.T := T.lc [2, 3] (T.isq (T.rdp 0 [2])) (T.ttp (T.cons (T.tnm 2) (T.cons (T.tnm 3) T.nil))) (T.bol (T.op2 P2.eq (T.plc 3 []) (T.plc 1 []))) (T.nam 2)
def led_from_dc0 : RF.T := T.dlc [5] (T.isq (T.plc 1 [])) (T.tnm 5) T.nop (T.nam 5) (T.con (PV.bl true))
def led_from_for0 : RF.T := T.sfor (T.ttp (T.cons (T.tnm 6) (T.cons (T.tnm 7) T.nil))) (T.isq (T.plc 0 [])) (T.sif (T.andT (T.bol (T.op2 P2.eq (T.plc 6 []) (T.plc 5 []))) (T.andT (T.bol (T.op2 P2.isIn (T.plc 7 []) (T.plc 2 []))) (T.bol (T.op2 P2.notIn (T.plc 7 []) (T.plc 3 []))))) (T.seq (T.iset 3 [] (T.plc 7 []) (T.con (PV.bl true))) (T.xpr (T.mut Mut.append 4 [] (T.cons (T.nam 7) T.nil)))) T.nop)
def led_from_whl0 : RF.T := T.whl (T.tru (T.plc 4 [])) (T.seq (T.asg (T.tnm 5) (T.mut Mut.pop 4 [] T.nil)) led_from_for0)
def above_in_lc0 : RF.T := T.lc [3, 4] (T.isq (T.rdp 0 [2])) (T.ttp (T.cons (T.tnm 3) (T.cons (T.tnm 4) T.nil))) T.nop (T.tup (T.cons (T.nam 4) (T.cons (T.nam 3) T.nil)))
def both_ways_lc0 : RF.T := T.lc [1, 2] (T.isq (T.plc 0 [])) (T.ttp (T.cons (T.tnm 1) (T.cons (T.tnm 2) T.nil))) T.nop (T.tup (T.cons (T.nam 2) (T.cons (T.nam 1) T.nil)))
def districts_in_dc0 : RF.T := T.dlc [2] (T.isq (T.plc 1 [])) (T.tnm 2) T.nop (T.call 24 (T.cons (T.plc 0 []) (T.cons (T.plc 1 []) (T.cons (T.plc 2 []) T.nil)))) (T.con (PV.bl true))
def set_in_lc0 : RF.T := T.lc [4, 5] (T.isq (T.rdp 0 [2])) (T.ttp (T.cons (T.tnm 4) (T.cons (T.tnm 5) T.nil))) (T.bol (T.op2 P2.notIn (T.plc 5 []) (T.plc 1 []))) (T.tup (T.cons (T.nam 4) (T.cons (T.nam 5) T.nil)))
def set_in_lc1 : RF.T := T.lc [4, 5] (T.isq (T.rdp 0 [3])) (T.ttp (T.cons (T.tnm 4) (T.cons (T.tnm 5) T.nil))) (T.andT (T.bol (T.op2 P2.notIn (T.plc 4 []) (T.plc 1 []))) (T.bol (T.op2 P2.notIn (T.plc 5 []) (T.plc 1 [])))) (T.tup (T.cons (T.nam 4) (T.cons (T.nam 5) T.nil)))
def shut_in_lc0 : RF.T := T.lc [2, 3] (T.isq (T.rdp 0 [2])) (T.ttp (T.cons (T.tnm 2) (T.cons (T.tnm 3) T.nil))) (T.bol (T.op2 P2.notIn (T.plc 2 []) (T.plc 1 []))) (T.tup (T.cons (T.nam 2) (T.cons (T.nam 3) T.nil)))
def _law_draws_for0 : RF.T := T.sfor (T.tnm 5) (T.irng (T.cons (T.plc 1 []) T.nil)) (T.sif (T.bol (T.op2 P2.gt (T.plc 3 []) (T.con (PV.int 0)))) (T.seq (T.xpr (T.mut Mut.append 2 [] (T.cons (T.op2 P2.mod (T.op1 P1.intOf (T.plc 3 [])) (T.con (PV.int 1009))) T.nil))) (T.asg (T.tnm 3) (T.op2 P2.fdiv (T.plc 3 []) (T.con (PV.int 1009))))) T.nop)
def _law_draws_for1 : RF.T := T.sfor (T.tnm 5) (T.irng (T.cons (T.op2 P2.sub (T.plc 1 []) (T.op1 P1.len (T.plc 2 []))) T.nil)) (T.seq (T.asg (T.tnm 6) (T.nam 5)) (T.seq (T.sif (T.tru (T.plc 0 [])) (T.asg (T.tnm 6) (T.op2 P2.mod (T.op1 P1.intOf (T.op2 P2.idx (T.plc 0 []) (T.op2 P2.mod (T.op2 P2.add (T.plc 5 []) (T.con (PV.int 1))) (T.op1 P1.len (T.plc 0 []))))) (T.con (PV.int 2147483647)))) T.nop) (T.seq (T.asg (T.tnm 4) (T.op2 P2.mod (T.op1 P1.intOf (T.op2 P2.add (T.op2 P2.add (T.op2 P2.add (T.op2 P2.mul (T.plc 4 []) (T.con (PV.int 48271))) (T.plc 6 [])) (T.op2 P2.mul (T.plc 5 []) (T.con (PV.int 69621)))) (T.con (PV.int 11)))) (T.con (PV.int 2147483647)))) (T.xpr (T.mut Mut.append 2 [] (T.cons (T.op2 P2.mod (T.op2 P2.fdiv (T.op2 P2.mod (T.op1 P1.intOf (T.op2 P2.add (T.op2 P2.mul (T.plc 4 []) (T.con (PV.int 16807))) (T.con (PV.int 12345)))) (T.con (PV.int 2147483647))) (T.con (PV.int 7))) (T.con (PV.int 1009))) T.nil))))))
def _law_order_for0 : RF.T := T.sfor (T.tnm 4) (T.irng (T.cons (T.plc 1 []) T.nil)) (T.xpr (T.mut Mut.append 3 [] (T.cons (T.mut Mut.popAt 2 [] (T.cons (T.call 32 (T.cons (T.plc 0 []) (T.cons (T.op1 P1.len (T.plc 2 [])) T.nil))) T.nil)) T.nil)))
def _law_web_for1 : RF.T := T.sfor (T.tnm 8) (T.irng (T.cons (T.op2 P2.add (T.plc 7 []) (T.con (PV.int 1))) (T.cons (T.plc 1 []) T.nil))) (T.seq (T.sif (T.bol (T.op2 P2.lt (T.call 32 (T.cons (T.plc 0 []) (T.cons (T.con (PV.int 8)) T.nil))) (T.plc 2 []))) (T.xpr (T.mut Mut.append 5 [] (T.cons (T.tup (T.cons (T.op2 P2.idx (T.plc 4 []) (T.plc 7 [])) (T.cons (T.op2 P2.idx (T.plc 4 []) (T.plc 8 [])) T.nil))) T.nil))) T.nop) (T.sif (T.andT (T.bol (T.op2 P2.lt (T.call 32 (T.cons (T.plc 0 []) (T.cons (T.con (PV.int 8)) T.nil))) (T.plc 3 []))) (T.bol (T.op2 P2.lt (T.op1 P1.len (T.plc 6 [])) (T.con (PV.int 6))))) (T.xpr (T.mut Mut.append 6 [] (T.cons (T.tup (T.cons (T.op2 P2.min (T.op2 P2.idx (T.plc 4 []) (T.plc 7 [])) (T.op2 P2.idx (T.plc 4 []) (T.plc 8 []))) (T.cons (T.op2 P2.max (T.op2 P2.idx (T.plc 4 []) (T.plc 7 [])) (T.op2 P2.idx (T.plc 4 []) (T.plc 8 []))) T.nil))) T.nil))) T.nop))
def _law_web_for0 : RF.T := T.sfor (T.tnm 7) (T.irng (T.cons (T.plc 1 []) T.nil)) _law_web_for1
def _law_lot_lc0 : RF.T := T.lc [2] (T.irng (T.cons (T.plc 1 []) T.nil)) (T.tnm 2) (T.bol (T.op2 P2.eq (T.call 32 (T.cons (T.plc 0 []) (T.cons (T.con (PV.int 2)) T.nil))) (T.con (PV.int 1)))) (T.nam 2)
def _law_above_for1 : RF.T := T.sfor (T.tnm 5) (T.isq (T.op2 P2.idx (T.plc 0 []) (T.con (PV.int 1)))) (T.sif (T.andT (T.bol (T.op2 P2.isIn (T.op2 P2.idx (T.plc 5 []) (T.con (PV.int 1))) (T.plc 3 []))) (T.andT (T.bol (T.op2 P2.isIn (T.op2 P2.idx (T.plc 5 []) (T.con (PV.int 0))) (T.plc 2 []))) (T.bol (T.op2 P2.notIn (T.op2 P2.idx (T.plc 5 []) (T.con (PV.int 0))) (T.plc 3 []))))) (T.xpr (T.mut Mut.append 3 [] (T.cons (T.op2 P2.idx (T.plc 5 []) (T.con (PV.int 0))) T.nil))) T.nop)
def _law_above_for0 : RF.T := T.sfor (T.tnm 4) (T.irng (T.cons (T.op2 P2.idx (T.plc 0 []) (T.con (PV.int 0))) T.nil)) _law_above_for1
def _law_district_for2 : RF.T := T.sfor (T.tnm 6) (T.irng (T.cons (T.con (PV.int 2)) T.nil)) (T.sif (T.andT (T.bol (T.op2 P2.isIn (T.op2 P2.idx (T.plc 5 []) (T.plc 6 [])) (T.plc 3 []))) (T.andT (T.bol (T.op2 P2.isIn (T.op2 P2.idx (T.plc 5 []) (T.op2 P2.sub (T.con (PV.int 1)) (T.plc 6 []))) (T.plc 1 []))) (T.bol (T.op2 P2.notIn (T.op2 P2.idx (T.plc 5 []) (T.op2 P2.sub (T.con (PV.int 1)) (T.plc 6 []))) (T.plc 3 []))))) (T.xpr (T.mut Mut.append 3 [] (T.cons (T.op2 P2.idx (T.plc 5 []) (T.op2 P2.sub (T.con (PV.int 1)) (T.plc 6 []))) T.nil))) T.nop)
def _law_district_for1 : RF.T := T.sfor (T.tnm 5) (T.isq (T.op2 P2.idx (T.plc 0 []) (T.con (PV.int 2)))) _law_district_for2
def _law_district_for0 : RF.T := T.sfor (T.tnm 4) (T.irng (T.cons (T.op2 P2.idx (T.plc 0 []) (T.con (PV.int 0))) T.nil)) _law_district_for1
def _law_districts_for0 : RF.T := T.sfor (T.tnm 3) (T.isq (T.plc 1 [])) (T.seq (T.asg (T.tnm 4) (T.call 37 (T.cons (T.plc 0 []) (T.cons (T.plc 1 []) (T.cons (T.plc 3 []) T.nil))))) (T.sif (T.bol (T.op2 P2.notIn (T.plc 4 []) (T.plc 2 []))) (T.xpr (T.mut Mut.append 2 [] (T.cons (T.nam 4) T.nil))) T.nop))
def _law_set_lc0 : RF.T := T.lc [4] (T.isq (T.op2 P2.idx (T.plc 0 []) (T.con (PV.int 1)))) (T.tnm 4) (T.bol (T.op2 P2.notIn (T.op2 P2.idx (T.plc 4 []) (T.con (PV.int 1))) (T.plc 1 []))) (T.nam 4)
def _law_set_lc1 : RF.T := T.lc [5] (T.isq (T.op2 P2.idx (T.plc 0 []) (T.con (PV.int 2)))) (T.tnm 5) (T.andT (T.bol (T.op2 P2.notIn (T.op2 P2.idx (T.plc 5 []) (T.con (PV.int 0))) (T.plc 1 []))) (T.bol (T.op2 P2.notIn (T.op2 P2.idx (T.plc 5 []) (T.con (PV.int 1))) (T.plc 1 [])))) (T.nam 5)
def _law_shut_lc0 : RF.T := T.lc [2] (T.isq (T.op2 P2.idx (T.plc 0 []) (T.con (PV.int 1)))) (T.tnm 2) (T.bol (T.op2 P2.notIn (T.op2 P2.idx (T.plc 2 []) (T.con (PV.int 0))) (T.plc 1 []))) (T.nam 2)
def _law_below_lc0 : RF.T := T.lc [3] (T.isq (T.op2 P2.idx (T.plc 0 []) (T.con (PV.int 1)))) (T.tnm 3) T.nop (T.tup (T.cons (T.op2 P2.idx (T.plc 3 []) (T.con (PV.int 1))) (T.cons (T.op2 P2.idx (T.plc 3 []) (T.con (PV.int 0))) T.nil)))
def _law_first_lc0 : RF.T := T.lc [5] (T.isq (T.op2 P2.idx (T.plc 0 []) (T.con (PV.int 1)))) (T.tnm 5) (T.bol (T.op2 P2.eq (T.op2 P2.idx (T.plc 5 []) (T.con (PV.int 1))) (T.plc 4 []))) (T.op2 P2.isIn (T.op2 P2.idx (T.plc 5 []) (T.con (PV.int 0))) (T.plc 1 []))
def _law_first_for1 : RF.T := T.sfor (T.tnm 4) (T.irng (T.cons (T.op2 P2.idx (T.plc 0 []) (T.con (PV.int 0))) T.nil)) (T.sif (T.andT (T.bol (T.op2 P2.notIn (T.plc 4 []) (T.plc 1 []))) (T.tru (T.op1 P1.all _law_first_lc0))) (T.xpr (T.mut Mut.append 3 [] (T.cons (T.nam 4) T.nil))) T.nop)
def _law_first_for0 : RF.T := T.sfor (T.tnm 2) (T.irng (T.cons (T.op2 P2.idx (T.plc 0 []) (T.con (PV.int 0))) T.nil)) (T.seq (T.asg (T.tnm 3) (T.lst T.nil)) (T.seq _law_first_for1 (T.xpr (T.mut Mut.append 1 [] (T.cons (T.op2 P2.idx (T.plc 3 []) (T.con (PV.int 0))) T.nil)))))
def law_lc0 : RF.T := T.lc [8] (T.isq (T.op2 P2.idx (T.plc 3 []) (T.con (PV.int 1)))) (T.tnm 8) (T.bol (T.op2 P2.eq (T.op2 P2.idx (T.plc 8 []) (T.con (PV.int 1))) (T.plc 5 []))) (T.op2 P2.idx (T.plc 8 []) (T.con (PV.int 0)))
theorem run_BadWeb_init {n : Nat} (a0 a1 : Slot) : sem X.t (n + 1) 0 [a0, a1] = fin [true, true] [a0, a1] (evS (G n) (T.fset 0 [] 0 (T.nam 1)) [a0, a1]) := by unfold G; exact sem_run (np := 2) (ns := 2) (by kernel_rfl) (by kernel_rfl) [a0, a1] rfl
theorem run_is_integer {n : Nat} (a0 : Slot) : sem X.t (n + 1) 1 [a0] = fin [true] [a0] (evS (G n) (T.ret (T.andV (T.op1 (P1.isT Ty.int [4]) (T.plc 0 [])) (T.op1 P1.notB (T.op1 (P1.isT Ty.bool [4]) (T.plc 0 []))))) [a0]) := by unfold G; exact sem_run (np := 1) (ns := 1) (by kernel_rfl) (by kernel_rfl) [a0] rfl
theorem run_is_between {n : Nat} (a0 a1 a2 : Slot) : sem X.t (n + 1) 2 [a0, a1, a2] = fin [true, true, true] [a0, a1, a2] (evS (G n) (T.ret (T.andV (T.call 1 (T.cons (T.plc 0 []) T.nil)) (T.chn P2.le P2.le (T.plc 1 []) (T.plc 0 []) (T.plc 2 [])))) [a0, a1, a2]) := by unfold G; exact sem_run (np := 3) (ns := 3) (by kernel_rfl) (by kernel_rfl) [a0, a1, a2] rfl
theorem run_is_under {n : Nat} (a0 a1 : Slot) : sem X.t (n + 1) 3 [a0, a1] = fin [true, true] [a0, a1] (evS (G n) (T.ret (T.andV (T.call 1 (T.cons (T.plc 0 []) T.nil)) (T.chn P2.le P2.lt (T.con (PV.int 0)) (T.plc 0 []) (T.plc 1 [])))) [a0, a1]) := by unfold G; exact sem_run (np := 2) (ns := 2) (by kernel_rfl) (by kernel_rfl) [a0, a1] rfl
theorem run_are_rising {n : Nat} (a0 : Slot) : sem X.t (n + 1) 4 [a0] = fin [true] [a0] (evS (G n) (T.ret (T.op1 P1.all are_rising_lc0)) [a0, .dead]) := by unfold G; exact sem_run (np := 1) (ns := 2) (by kernel_rfl) (by kernel_rfl) [a0] rfl
theorem run_is_lot {n : Nat} (a0 a1 : Slot) : sem X.t (n + 1) 5 [a0, a1] = fin [true, true] [a0, a1] (evS (G n) (T.seq (T.sif (T.orT (T.notT (T.tru (T.op1 (P1.isT Ty.tuple [4]) (T.plc 0 [])))) (T.notT (T.tru (T.op1 P1.all is_lot_lc0)))) (T.ret (T.con (PV.bl false))) T.nop) (T.ret (T.call 4 (T.cons (T.plc 0 []) T.nil)))) [a0, a1, .dead]) := by unfold G; exact sem_run (np := 2) (ns := 3) (by kernel_rfl) (by kernel_rfl) [a0, a1] rfl
theorem run_is_arrow {n : Nat} (a0 a1 : Slot) : sem X.t (n + 1) 6 [a0, a1] = fin [true, true] [a0, a1] (evS (G n) (T.seq (T.sif (T.orT (T.notT (T.tru (T.op1 (P1.isT Ty.tuple [4]) (T.plc 1 [])))) (T.orT (T.bol (T.op2 P2.ne (T.op1 P1.len (T.plc 1 [])) (T.con (PV.int 2)))) (T.notT (T.tru (T.call 3 (T.cons (T.op2 P2.idx (T.plc 1 []) (T.con (PV.int 0))) (T.cons (T.plc 0 []) T.nil))))))) (T.ret (T.con (PV.bl false))) T.nop) (T.ret (T.andV (T.call 3 (T.cons (T.op2 P2.idx (T.plc 1 []) (T.con (PV.int 1))) (T.cons (T.plc 0 []) T.nil))) (T.op2 P2.ne (T.op2 P2.idx (T.plc 1 []) (T.con (PV.int 0))) (T.op2 P2.idx (T.plc 1 []) (T.con (PV.int 1))))))) [a0, a1]) := by unfold G; exact sem_run (np := 2) (ns := 2) (by kernel_rfl) (by kernel_rfl) [a0, a1] rfl
theorem run_are_pairs {n : Nat} (a0 a1 : Slot) : sem X.t (n + 1) 7 [a0, a1] = fin [true, true] [a0, a1] (evS (G n) (T.seq (T.sif (T.orT (T.notT (T.tru (T.op1 (P1.isT Ty.tuple [4]) (T.plc 1 [])))) (T.notT (T.tru (T.op1 P1.all are_pairs_lc0)))) (T.ret (T.con (PV.bl false))) T.nop) (T.ret (T.call 4 (T.cons (T.plc 1 []) T.nil)))) [a0, a1, .dead]) := by unfold G; exact sem_run (np := 2) (ns := 3) (by kernel_rfl) (by kernel_rfl) [a0, a1] rfl
theorem run_ordered {n : Nat} (a0 a1 : Slot) : sem X.t (n + 1) 8 [a0, a1] = fin [true, true] [a0, a1] (evS (G n) (T.seq (T.asg (T.tnm 2) (T.lst T.nil)) ordered_whl0) [a0, a1, .dead, .dead, .dead, .dead, .dead]) := by unfold G; exact sem_run (np := 2) (ns := 7) (by kernel_rfl) (by kernel_rfl) [a0, a1] rfl
theorem run_Web_init {n : Nat} (a0 a1 a2 a3 : Slot) : sem X.t (n + 1) 9 [a0, a1, a2, a3] = fin [true, true, true, true] [a0, a1, a2, a3] (evS (G n) (T.seq (T.sif (T.notT (T.tru (T.call 2 (T.cons (T.plc 1 []) (T.cons (T.con (PV.int 1)) (T.cons (T.con (PV.int 6)) T.nil)))))) T.nil T.nop) (T.seq (T.sif (T.orT (T.notT (T.tru (T.call 7 (T.cons (T.plc 1 []) (T.cons (T.plc 2 []) T.nil))))) (T.bol (T.op2 P2.lt (T.op1 P1.len (T.call 8 (T.cons (T.plc 1 []) (T.cons (T.plc 2 []) T.nil)))) (T.plc 1 [])))) T.nil T.nop) (T.seq (T.sif (T.orT (T.notT (T.tru (T.call 7 (T.cons (T.plc 1 []) (T.cons (T.plc 3 []) T.nil))))) (T.bol (T.op2 P2.gt (T.op1 P1.len (T.plc 3 [])) (T.con (PV.int 6))))) T.nil T.nop) (T.seq (T.sif (T.tru (T.op1 P1.any Web_init_lc0)) T.nil T.nop) (T.seq (T.fset 0 [] 1 (T.nam 1)) (T.seq (T.fset 0 [] 2 (T.nam 2)) (T.fset 0 [] 3 (T.nam 3)))))))) [a0, a1, a2, a3, .dead, .dead]) := by unfold G; exact sem_run (np := 4) (ns := 6) (by kernel_rfl) (by kernel_rfl) [a0, a1, a2, a3] rfl
theorem run_Web_eq {n : Nat} (a0 a1 : Slot) : sem X.t (n + 1) 10 [a0, a1] = fin [true, true] [a0, a1] (evS (G n) (T.ret (T.andV (T.op1 (P1.isC 4 [4]) (T.plc 1 [])) (T.andV (T.op2 P2.eq (T.plc 0 [1]) (T.plc 1 [1])) (T.andV (T.op2 P2.eq (T.plc 0 [2]) (T.plc 1 [2])) (T.op2 P2.eq (T.plc 0 [3]) (T.plc 1 [3])))))) [a0, a1]) := by unfold G; exact sem_run (np := 2) (ns := 2) (by kernel_rfl) (by kernel_rfl) [a0, a1] rfl
theorem run_is_variable {n : Nat} (a0 a1 : Slot) : sem X.t (n + 1) 11 [a0, a1] = fin [true, true] [a0, a1] (evS (G n) (T.ret (T.call 3 (T.cons (T.plc 1 []) (T.cons (T.plc 0 [1]) T.nil)))) [a0, a1]) := by unfold G; exact sem_run (np := 2) (ns := 2) (by kernel_rfl) (by kernel_rfl) [a0, a1] rfl
theorem run_need_variable {n : Nat} (a0 a1 : Slot) : sem X.t (n + 1) 12 [a0, a1] = fin [true, true] [a0, a1] (evS (G n) (T.sif (T.notT (T.tru (T.call 11 (T.cons (T.plc 0 []) (T.cons (T.plc 1 []) T.nil))))) (T.rse 2 T.nil) T.nop) [a0, a1]) := by unfold G; exact sem_run (np := 2) (ns := 2) (by kernel_rfl) (by kernel_rfl) [a0, a1] rfl
theorem run_need_lot {n : Nat} (a0 a1 : Slot) : sem X.t (n + 1) 13 [a0, a1] = fin [true, true] [a0, a1] (evS (G n) (T.sif (T.notT (T.tru (T.call 5 (T.cons (T.plc 1 []) (T.cons (T.plc 0 [1]) T.nil))))) (T.rse 3 T.nil) T.nop) [a0, a1]) := by unfold G; exact sem_run (np := 2) (ns := 2) (by kernel_rfl) (by kernel_rfl) [a0, a1] rfl
theorem run_every_one {n : Nat} (a0 : Slot) : sem X.t (n + 1) 14 [a0] = fin [true] [a0] (evS (G n) (T.ret (T.op1 P1.tupleOf (T.lrng (T.cons (T.plc 0 [1]) T.nil)))) [a0]) := by unfold G; exact sem_run (np := 1) (ns := 1) (by kernel_rfl) (by kernel_rfl) [a0] rfl
theorem run_order_of {n : Nat} (a0 : Slot) : sem X.t (n + 1) 15 [a0] = fin [true] [a0] (evS (G n) (T.ret (T.call 8 (T.cons (T.plc 0 [1]) (T.cons (T.plc 0 [2]) T.nil)))) [a0]) := by unfold G; exact sem_run (np := 1) (ns := 1) (by kernel_rfl) (by kernel_rfl) [a0] rfl
theorem run_parents_of {n : Nat} (a0 a1 : Slot) : sem X.t (n + 1) 16 [a0, a1] = fin [true, true] [a0, a1] (evS (G n) (T.ret (T.op1 P1.tupleOf parents_of_lc0)) [a0, a1, .dead, .dead]) := by unfold G; exact sem_run (np := 2) (ns := 4) (by kernel_rfl) (by kernel_rfl) [a0, a1] rfl
theorem run_parents {n : Nat} (a0 a1 : Slot) : sem X.t (n + 1) 17 [a0, a1] = fin [true, true] [a0, a1] (evS (G n) (T.seq (T.xpr (T.call 12 (T.cons (T.plc 0 []) (T.cons (T.plc 1 []) T.nil)))) (T.ret (T.call 16 (T.cons (T.plc 0 []) (T.cons (T.plc 1 []) T.nil))))) [a0, a1]) := by unfold G; exact sem_run (np := 2) (ns := 2) (by kernel_rfl) (by kernel_rfl) [a0, a1] rfl
theorem run_led_from {n : Nat} (a0 a1 a2 : Slot) : sem X.t (n + 1) 18 [a0, a1, a2] = fin [true, true, true] [a0, a1, a2] (evS (G n) (T.seq (T.asg (T.tnm 3) led_from_dc0) (T.seq (T.asg (T.tnm 4) (T.op1 P1.listOf (T.plc 1 []))) (T.seq led_from_whl0 (T.ret (T.op1 P1.tupleOf (T.op1 P1.sorted (T.plc 3 []))))))) [a0, a1, a2, .dead, .dead, .dead, .dead, .dead]) := by unfold G; exact sem_run (np := 3) (ns := 8) (by kernel_rfl) (by kernel_rfl) [a0, a1, a2] rfl
theorem run_above_in {n : Nat} (a0 a1 a2 : Slot) : sem X.t (n + 1) 19 [a0, a1, a2] = fin [true, true, true] [a0, a1, a2] (evS (G n) (T.ret (T.call 18 (T.cons above_in_lc0 (T.cons (T.plc 1 []) (T.cons (T.plc 2 []) T.nil))))) [a0, a1, a2, .dead, .dead]) := by unfold G; exact sem_run (np := 3) (ns := 5) (by kernel_rfl) (by kernel_rfl) [a0, a1, a2] rfl
theorem run_above {n : Nat} (a0 a1 : Slot) : sem X.t (n + 1) 20 [a0, a1] = fin [true, true] [a0, a1] (evS (G n) (T.seq (T.xpr (T.call 13 (T.cons (T.plc 0 []) (T.cons (T.plc 1 []) T.nil)))) (T.ret (T.call 19 (T.cons (T.plc 0 []) (T.cons (T.plc 1 []) (T.cons (T.call 14 (T.cons (T.plc 0 []) T.nil)) T.nil)))))) [a0, a1]) := by unfold G; exact sem_run (np := 2) (ns := 2) (by kernel_rfl) (by kernel_rfl) [a0, a1] rfl
theorem run_below_in {n : Nat} (a0 a1 a2 : Slot) : sem X.t (n + 1) 21 [a0, a1, a2] = fin [true, true, true] [a0, a1, a2] (evS (G n) (T.ret (T.call 18 (T.cons (T.plc 0 [2]) (T.cons (T.plc 1 []) (T.cons (T.plc 2 []) T.nil))))) [a0, a1, a2]) := by unfold G; exact sem_run (np := 3) (ns := 3) (by kernel_rfl) (by kernel_rfl) [a0, a1, a2] rfl
theorem run_below {n : Nat} (a0 a1 : Slot) : sem X.t (n + 1) 22 [a0, a1] = fin [true, true] [a0, a1] (evS (G n) (T.seq (T.xpr (T.call 13 (T.cons (T.plc 0 []) (T.cons (T.plc 1 []) T.nil)))) (T.ret (T.call 21 (T.cons (T.plc 0 []) (T.cons (T.plc 1 []) (T.cons (T.call 14 (T.cons (T.plc 0 []) T.nil)) T.nil)))))) [a0, a1]) := by unfold G; exact sem_run (np := 2) (ns := 2) (by kernel_rfl) (by kernel_rfl) [a0, a1] rfl
theorem run_both_ways {n : Nat} (a0 : Slot) : sem X.t (n + 1) 23 [a0] = fin [true] [a0] (evS (G n) (T.ret (T.op2 P2.add (T.op1 P1.listOf (T.plc 0 [])) both_ways_lc0)) [a0, .dead, .dead]) := by unfold G; exact sem_run (np := 1) (ns := 3) (by kernel_rfl) (by kernel_rfl) [a0] rfl
theorem run_district_in {n : Nat} (a0 a1 a2 : Slot) : sem X.t (n + 1) 24 [a0, a1, a2] = fin [true, true, true] [a0, a1, a2] (evS (G n) (T.ret (T.call 18 (T.cons (T.call 23 (T.cons (T.plc 0 [3]) T.nil)) (T.cons (T.tup (T.cons (T.nam 2) T.nil)) (T.cons (T.plc 1 []) T.nil))))) [a0, a1, a2]) := by unfold G; exact sem_run (np := 3) (ns := 3) (by kernel_rfl) (by kernel_rfl) [a0, a1, a2] rfl
theorem run_districts_in {n : Nat} (a0 a1 : Slot) : sem X.t (n + 1) 25 [a0, a1] = fin [true, true] [a0, a1] (evS (G n) (T.ret (T.op1 P1.tupleOf (T.op1 P1.sorted districts_in_dc0))) [a0, a1, .dead]) := by unfold G; exact sem_run (np := 2) (ns := 3) (by kernel_rfl) (by kernel_rfl) [a0, a1] rfl
theorem run_districts {n : Nat} (a0 a1 : Slot) : sem X.t (n + 1) 26 [a0, a1] = fin [true, true] [a0, a1] (evS (G n) (T.seq (T.xpr (T.call 13 (T.cons (T.plc 0 []) (T.cons (T.plc 1 []) T.nil)))) (T.ret (T.call 25 (T.cons (T.plc 0 []) (T.cons (T.plc 1 []) T.nil))))) [a0, a1]) := by unfold G; exact sem_run (np := 2) (ns := 2) (by kernel_rfl) (by kernel_rfl) [a0, a1] rfl
theorem run_set_in {n : Nat} (a0 a1 : Slot) : sem X.t (n + 1) 27 [a0, a1] = fin [true, true] [a0, a1] (evS (G n) (T.seq (T.asg (T.tnm 2) (T.op1 P1.tupleOf set_in_lc0)) (T.seq (T.asg (T.tnm 3) (T.op1 P1.tupleOf set_in_lc1)) (T.ret (T.mak 4 (T.cons (T.plc 0 [1]) (T.cons (T.plc 2 []) (T.cons (T.plc 3 []) T.nil))))))) [a0, a1, .dead, .dead, .dead, .dead]) := by unfold G; exact sem_run (np := 2) (ns := 6) (by kernel_rfl) (by kernel_rfl) [a0, a1] rfl
theorem run_set_web {n : Nat} (a0 a1 : Slot) : sem X.t (n + 1) 28 [a0, a1] = fin [true, true] [a0, a1] (evS (G n) (T.seq (T.xpr (T.call 13 (T.cons (T.plc 0 []) (T.cons (T.plc 1 []) T.nil)))) (T.ret (T.call 27 (T.cons (T.plc 0 []) (T.cons (T.plc 1 []) T.nil))))) [a0, a1]) := by unfold G; exact sem_run (np := 2) (ns := 2) (by kernel_rfl) (by kernel_rfl) [a0, a1] rfl
theorem run_shut_in {n : Nat} (a0 a1 : Slot) : sem X.t (n + 1) 29 [a0, a1] = fin [true, true] [a0, a1] (evS (G n) (T.ret (T.mak 4 (T.cons (T.plc 0 [1]) (T.cons (T.op1 P1.tupleOf shut_in_lc0) (T.cons (T.plc 0 [3]) T.nil))))) [a0, a1, .dead, .dead]) := by unfold G; exact sem_run (np := 2) (ns := 4) (by kernel_rfl) (by kernel_rfl) [a0, a1] rfl
theorem run_shut_web {n : Nat} (a0 a1 : Slot) : sem X.t (n + 1) 30 [a0, a1] = fin [true, true] [a0, a1] (evS (G n) (T.seq (T.xpr (T.call 13 (T.cons (T.plc 0 []) (T.cons (T.plc 1 []) T.nil)))) (T.ret (T.call 29 (T.cons (T.plc 0 []) (T.cons (T.plc 1 []) T.nil))))) [a0, a1]) := by unfold G; exact sem_run (np := 2) (ns := 2) (by kernel_rfl) (by kernel_rfl) [a0, a1] rfl
theorem run__law_draws {n : Nat} (a0 a1 : Slot) : sem X.t (n + 1) 31 [a0, a1] = fin [true, true] [a0, a1] (evS (G n) (T.seq (T.asg (T.tnm 2) (T.lst T.nil)) (T.seq (T.asg (T.tnm 3) (T.ife (T.tru (T.plc 0 [])) (T.op2 P2.idx (T.plc 0 []) (T.con (PV.int 0))) (T.con (PV.int 0)))) (T.seq (T.sif (T.bol (T.op2 P2.lt (T.plc 3 []) (T.con (PV.int 0)))) (T.asg (T.tnm 3) (T.op1 P1.neg (T.plc 3 []))) T.nop) (T.seq (T.sif (T.bol (T.op2 P2.ge (T.plc 3 []) (T.con (PV.int 1000000000000000000)))) _law_draws_for0 T.nop) (T.seq (T.asg (T.tnm 4) (T.con (PV.int 7))) (T.seq _law_draws_for1 (T.ret (T.mov 2)))))))) [a0, a1, .dead, .dead, .dead, .dead, .dead]) := by unfold G; exact sem_run (np := 2) (ns := 7) (by kernel_rfl) (by kernel_rfl) [a0, a1] rfl
theorem run__law_take {n : Nat} (a0 a1 : Slot) : sem X.t (n + 1) 32 [a0, a1] = fin [true, true] [a0, a1] (evS (G n) (T.ret (T.op2 P2.mod (T.mut Mut.pop 0 [] T.nil) (T.plc 1 []))) [a0, a1]) := by unfold G; exact sem_run (np := 2) (ns := 2) (by kernel_rfl) (by kernel_rfl) [a0, a1] rfl
theorem run__law_order {n : Nat} (a0 a1 : Slot) : sem X.t (n + 1) 33 [a0, a1] = fin [true, true] [a0, a1] (evS (G n) (T.seq (T.asg (T.tnm 2) (T.lrng (T.cons (T.plc 1 []) T.nil))) (T.seq (T.asg (T.tnm 3) (T.lst T.nil)) (T.seq _law_order_for0 (T.ret (T.mov 3))))) [a0, a1, .dead, .dead, .dead]) := by unfold G; exact sem_run (np := 2) (ns := 5) (by kernel_rfl) (by kernel_rfl) [a0, a1] rfl
theorem run__law_web {n : Nat} (a0 a1 a2 a3 : Slot) : sem X.t (n + 1) 34 [a0, a1, a2, a3] = fin [true, true, true, true] [a0, a1, a2, a3] (evS (G n) (T.seq (T.asg (T.tnm 4) (T.call 33 (T.cons (T.plc 0 []) (T.cons (T.plc 1 []) T.nil)))) (T.seq (T.asg (T.tnm 5) (T.lst T.nil)) (T.seq (T.asg (T.tnm 6) (T.lst T.nil)) (T.seq _law_web_for0 (T.ret (T.tup (T.cons (T.nam 1) (T.cons (T.op1 P1.tupleOf (T.op1 P1.sorted (T.plc 5 []))) (T.cons (T.op1 P1.tupleOf (T.op1 P1.sorted (T.plc 6 []))) T.nil))))))))) [a0, a1, a2, a3, .dead, .dead, .dead, .dead, .dead]) := by unfold G; exact sem_run (np := 4) (ns := 9) (by kernel_rfl) (by kernel_rfl) [a0, a1, a2, a3] rfl
theorem run__law_lot {n : Nat} (a0 a1 : Slot) : sem X.t (n + 1) 35 [a0, a1] = fin [true, true] [a0, a1] (evS (G n) (T.ret (T.op1 P1.tupleOf _law_lot_lc0)) [a0, a1, .dead]) := by unfold G; exact sem_run (np := 2) (ns := 3) (by kernel_rfl) (by kernel_rfl) [a0, a1] rfl
theorem run__law_above {n : Nat} (a0 a1 a2 : Slot) : sem X.t (n + 1) 36 [a0, a1, a2] = fin [true, true, true] [a0, a1, a2] (evS (G n) (T.seq (T.asg (T.tnm 3) (T.op1 P1.listOf (T.plc 1 []))) (T.seq _law_above_for0 (T.ret (T.op1 P1.tupleOf (T.op1 P1.sorted (T.plc 3 [])))))) [a0, a1, a2, .dead, .dead, .dead]) := by unfold G; exact sem_run (np := 3) (ns := 6) (by kernel_rfl) (by kernel_rfl) [a0, a1, a2] rfl
theorem run__law_district {n : Nat} (a0 a1 a2 : Slot) : sem X.t (n + 1) 37 [a0, a1, a2] = fin [true, true, true] [a0, a1, a2] (evS (G n) (T.seq (T.asg (T.tnm 3) (T.lst (T.cons (T.nam 2) T.nil))) (T.seq _law_district_for0 (T.ret (T.op1 P1.tupleOf (T.op1 P1.sorted (T.plc 3 [])))))) [a0, a1, a2, .dead, .dead, .dead, .dead]) := by unfold G; exact sem_run (np := 3) (ns := 7) (by kernel_rfl) (by kernel_rfl) [a0, a1, a2] rfl
theorem run__law_districts {n : Nat} (a0 a1 : Slot) : sem X.t (n + 1) 38 [a0, a1] = fin [true, true] [a0, a1] (evS (G n) (T.seq (T.asg (T.tnm 2) (T.lst T.nil)) (T.seq _law_districts_for0 (T.ret (T.op1 P1.tupleOf (T.op1 P1.sorted (T.plc 2 [])))))) [a0, a1, .dead, .dead, .dead]) := by unfold G; exact sem_run (np := 2) (ns := 5) (by kernel_rfl) (by kernel_rfl) [a0, a1] rfl
theorem run__law_set {n : Nat} (a0 a1 : Slot) : sem X.t (n + 1) 39 [a0, a1] = fin [true, true] [a0, a1] (evS (G n) (T.seq (T.asg (T.tnm 2) (T.op1 P1.tupleOf _law_set_lc0)) (T.seq (T.asg (T.tnm 3) (T.op1 P1.tupleOf _law_set_lc1)) (T.ret (T.tup (T.cons (T.op2 P2.idx (T.plc 0 []) (T.con (PV.int 0))) (T.cons (T.nam 2) (T.cons (T.nam 3) T.nil))))))) [a0, a1, .dead, .dead, .dead, .dead]) := by unfold G; exact sem_run (np := 2) (ns := 6) (by kernel_rfl) (by kernel_rfl) [a0, a1] rfl
theorem run__law_shut {n : Nat} (a0 a1 : Slot) : sem X.t (n + 1) 40 [a0, a1] = fin [true, true] [a0, a1] (evS (G n) (T.ret (T.tup (T.cons (T.op2 P2.idx (T.plc 0 []) (T.con (PV.int 0))) (T.cons (T.op1 P1.tupleOf _law_shut_lc0) (T.cons (T.op2 P2.idx (T.plc 0 []) (T.con (PV.int 2))) T.nil))))) [a0, a1, .dead]) := by unfold G; exact sem_run (np := 2) (ns := 3) (by kernel_rfl) (by kernel_rfl) [a0, a1] rfl
theorem run__law_below {n : Nat} (a0 a1 : Slot) : sem X.t (n + 1) 41 [a0, a1] = fin [true, true] [a0, a1] (evS (G n) (T.seq (T.asg (T.tnm 2) (T.tup (T.cons (T.op2 P2.idx (T.plc 0 []) (T.con (PV.int 0))) (T.cons (T.op1 P1.tupleOf _law_below_lc0) (T.cons (T.tup T.nil) T.nil))))) (T.ret (T.call 36 (T.cons (T.plc 2 []) (T.cons (T.plc 1 []) (T.cons (T.trng (T.cons (T.op2 P2.idx (T.plc 0 []) (T.con (PV.int 0))) T.nil)) T.nil)))))) [a0, a1, .dead, .dead]) := by unfold G; exact sem_run (np := 2) (ns := 4) (by kernel_rfl) (by kernel_rfl) [a0, a1] rfl
theorem run__law_first {n : Nat} (a0 : Slot) : sem X.t (n + 1) 42 [a0] = fin [true] [a0] (evS (G n) (T.seq (T.asg (T.tnm 1) (T.lst T.nil)) (T.seq _law_first_for0 (T.ret (T.op1 P1.tupleOf (T.plc 1 []))))) [a0, .dead, .dead, .dead, .dead, .dead]) := by unfold G; exact sem_run (np := 1) (ns := 6) (by kernel_rfl) (by kernel_rfl) [a0] rfl
theorem run__law_same {n : Nat} (a0 a1 : Slot) : sem X.t (n + 1) 43 [a0, a1] = fin [true, true] [a0, a1] (evS (G n) (T.seq (T.sif (T.notT (T.tru (T.op1 (P1.isC 4 [4]) (T.plc 0 [])))) (T.ret (T.con (PV.bl false))) T.nop) (T.ret (T.andV (T.op2 P2.eq (T.plc 0 [1]) (T.op2 P2.idx (T.plc 1 []) (T.con (PV.int 0)))) (T.andV (T.op2 P2.eq (T.plc 0 [2]) (T.op2 P2.idx (T.plc 1 []) (T.con (PV.int 1)))) (T.op2 P2.eq (T.plc 0 [3]) (T.op2 P2.idx (T.plc 1 []) (T.con (PV.int 2)))))))) [a0, a1]) := by unfold G; exact sem_run (np := 2) (ns := 2) (by kernel_rfl) (by kernel_rfl) [a0, a1] rfl
theorem run_law {n : Nat} (a0 : Slot) : sem X.t (n + 1) 44 [a0] = fin [true] [a0] (evS (G n) (T.seq (T.asg (T.tnm 1) (T.call 31 (T.cons (T.plc 0 []) (T.cons (T.con (PV.int 60)) T.nil)))) (T.seq (T.asg (T.tnm 2) (T.op2 P2.add (T.con (PV.int 1)) (T.call 32 (T.cons (T.plc 1 []) (T.cons (T.con (PV.int 6)) T.nil))))) (T.seq (T.asg (T.tnm 3) (T.call 34 (T.cons (T.plc 1 []) (T.cons (T.plc 2 []) (T.cons (T.op2 P2.add (T.con (PV.int 1)) (T.call 32 (T.cons (T.plc 1 []) (T.cons (T.con (PV.int 8)) T.nil)))) (T.cons (T.call 32 (T.cons (T.plc 1 []) (T.cons (T.con (PV.int 6)) T.nil))) T.nil)))))) (T.seq (T.asg (T.tnm 4) (T.call 35 (T.cons (T.plc 1 []) (T.cons (T.plc 2 []) T.nil)))) (T.seq (T.asg (T.tnm 5) (T.call 32 (T.cons (T.plc 1 []) (T.cons (T.plc 2 []) T.nil)))) (T.seq (T.asg (T.tnm 6) (T.mak 4 (T.cons (T.op2 P2.idx (T.plc 3 []) (T.con (PV.int 0))) (T.cons (T.op2 P2.idx (T.plc 3 []) (T.con (PV.int 1))) (T.cons (T.op2 P2.idx (T.plc 3 []) (T.con (PV.int 2))) T.nil))))) (T.seq (T.asg (T.tnm 7) (T.trng (T.cons (T.plc 2 []) T.nil))) (T.seq (T.sif (T.bol (T.op2 P2.ne (T.call 15 (T.cons (T.plc 6 []) T.nil)) (T.call 42 (T.cons (T.plc 3 []) T.nil)))) (T.ret (T.con (PV.bl false))) T.nop) (T.seq (T.sif (T.bol (T.op2 P2.ne (T.call 17 (T.cons (T.plc 6 []) (T.cons (T.plc 5 []) T.nil))) (T.op1 P1.tupleOf law_lc0))) (T.ret (T.con (PV.bl false))) T.nop) (T.seq (T.sif (T.orT (T.bol (T.op2 P2.ne (T.call 20 (T.cons (T.plc 6 []) (T.cons (T.plc 4 []) T.nil))) (T.call 36 (T.cons (T.plc 3 []) (T.cons (T.plc 4 []) (T.cons (T.plc 7 []) T.nil)))))) (T.bol (T.op2 P2.ne (T.call 22 (T.cons (T.plc 6 []) (T.cons (T.plc 4 []) T.nil))) (T.call 41 (T.cons (T.plc 3 []) (T.cons (T.plc 4 []) T.nil)))))) (T.ret (T.con (PV.bl false))) T.nop) (T.seq (T.sif (T.bol (T.op2 P2.ne (T.call 26 (T.cons (T.plc 6 []) (T.cons (T.plc 4 []) T.nil))) (T.call 38 (T.cons (T.plc 3 []) (T.cons (T.plc 4 []) T.nil))))) (T.ret (T.con (PV.bl false))) T.nop) (T.seq (T.sif (T.notT (T.tru (T.call 43 (T.cons (T.call 28 (T.cons (T.plc 6 []) (T.cons (T.plc 4 []) T.nil))) (T.cons (T.call 39 (T.cons (T.plc 3 []) (T.cons (T.plc 4 []) T.nil))) T.nil))))) (T.ret (T.con (PV.bl false))) T.nop) (T.seq (T.sif (T.orT (T.notT (T.tru (T.call 43 (T.cons (T.call 30 (T.cons (T.plc 6 []) (T.cons (T.plc 4 []) T.nil))) (T.cons (T.call 40 (T.cons (T.plc 3 []) (T.cons (T.plc 4 []) T.nil))) T.nil))))) (T.notT (T.tru (T.call 43 (T.cons (T.plc 6 []) (T.cons (T.plc 3 []) T.nil)))))) (T.ret (T.con (PV.bl false))) T.nop) (T.seq (T.sif (T.tru (T.op2 P2.idx (T.plc 3 []) (T.con (PV.int 1)))) (T.sif (T.orT (T.bol (T.ieq 0 (T.plc 6 []) (T.mak 4 (T.cons (T.op2 P2.idx (T.plc 3 []) (T.con (PV.int 0))) (T.cons (T.slc (T.op2 P2.idx (T.plc 3 []) (T.con (PV.int 1))) (T.prt (T.con (PV.int 1))) T.nop) (T.cons (T.op2 P2.idx (T.plc 3 []) (T.con (PV.int 2))) T.nil)))))) (T.notT (T.bol (T.op1 P1.notB (T.ieq 0 (T.plc 6 []) (T.mak 4 (T.cons (T.op2 P2.idx (T.plc 3 []) (T.con (PV.int 0))) (T.cons (T.slc (T.op2 P2.idx (T.plc 3 []) (T.con (PV.int 1))) (T.prt (T.con (PV.int 1))) T.nop) (T.cons (T.op2 P2.idx (T.plc 3 []) (T.con (PV.int 2))) T.nil))))))))) (T.ret (T.con (PV.bl false))) T.nop) T.nop) (T.ret (T.andV (T.ieq 0 (T.plc 6 []) (T.mak 4 (T.cons (T.op2 P2.idx (T.plc 3 []) (T.con (PV.int 0))) (T.cons (T.op2 P2.idx (T.plc 3 []) (T.con (PV.int 1))) (T.cons (T.op2 P2.idx (T.plc 3 []) (T.con (PV.int 2))) T.nil))))) (T.op1 P1.notB (T.ieq 0 (T.plc 6 []) (T.tup (T.cons (T.op2 P2.idx (T.plc 3 []) (T.con (PV.int 0))) (T.cons (T.op2 P2.idx (T.plc 3 []) (T.con (PV.int 1))) (T.cons (T.op2 P2.idx (T.plc 3 []) (T.con (PV.int 2))) T.nil)))))))))))))))))))))) [a0, .dead, .dead, .dead, .dead, .dead, .dead, .dead, .dead]) := by unfold G; exact sem_run (np := 1) (ns := 9) (by kernel_rfl) (by kernel_rfl) [a0] rfl
end LW
section
set_option maxHeartbeats 400000
namespace LW
open PySem RF
open RF.Rp (rep)
def isInt : PV → Bool
  | .int _ => true
  | _ => false
def noIns : PV → Bool
  | .dic _ => false
  | .ins _ _ => false
  | _ => true
def intP (p : Int → Bool) : PV → Bool
  | .int i => p i
  | _ => false
@[simp] theorem intP_int (p : Int → Bool) (i : Int) : intP p (.int i) = p i := (rfl)
@[simp] theorem intP_bl (p : Int → Bool) (i : Bool) : intP p (.bl i) = false := (rfl)
@[simp] theorem intP_non (p : Int → Bool) : intP p .non = false := (rfl)
@[simp] theorem intP_str (p : Int → Bool) (i : PySem.Str) : intP p (.str i) = false := (rfl)
@[simp] theorem intP_tup (p : Int → Bool) (i : List PV) : intP p (.tup i) = false := (rfl)
@[simp] theorem intP_lst (p : Int → Bool) (i : List PV) : intP p (.lst i) = false := (rfl)
@[simp] theorem noIns_int (i : Int) : noIns (.int i) = true := (rfl)
@[simp] theorem noIns_bl (i : Bool) : noIns (.bl i) = true := (rfl)
@[simp] theorem noIns_str (i : PySem.Str) : noIns (.str i) = true := (rfl)
@[simp] theorem noIns_tup (i : List PV) : noIns (.tup i) = true := (rfl)
@[simp] theorem noIns_lst (i : List PV) : noIns (.lst i) = true := (rfl)
@[simp] theorem noIns_xls (i : List PV) : noIns (.xls i) = true := (rfl)
@[simp] theorem noIns_non : noIns .non = true := (rfl)
@[simp] theorem is_integer_ok {n : Nat} (x : PV) (h : noIns x = true) : sem X.t (n + 1) 1 [.val x] = .ok (.val (.bl (isInt x))) [.val x] := by
  rw [run_is_integer]
  cases x <;> first | (simp [isInt]; done) | exact nomatch h
@[simp] theorem is_between_ok {n : Nat} (x : PV) (a b : Int) (h : noIns x = true) : sem X.t (n + 2) 2 [.val x, .val (.int a), .val (.int b)] = .ok (.val (.bl (intP (fun i => decide (a ≤ i) && decide (i ≤ b)) x))) [.val x, .val (.int a), .val (.int b)] := by
  rw [run_is_between]
  cases x <;> first | (simp [isInt, intP]; done) | exact nomatch h
@[simp] theorem is_under_ok {n : Nat} (x : PV) (b : Int) (h : noIns x = true) : sem X.t (n + 2) 3 [.val x, .val (.int b)] = .ok (.val (.bl (intP (fun i => decide (0 ≤ i) && decide (i < b)) x))) [.val x, .val (.int b)] := by
  rw [run_is_under]
  cases x <;> first | (simp [isInt, intP]; done) | exact nomatch h
def arrowB (m : Int) (p : Int × Int) : Bool := (decide (0 ≤ p.1) && decide (p.1 < m)) && ((decide (0 ≤ p.2) && decide (p.2 < m)) && decide (p.1 ≠ p.2))
@[simp] theorem is_arrow_ok {n : Nat} (m a b : Int) : sem X.t (n + 3) 6 [.val (.int m), .val (.tup [.int a, .int b])] = .ok (.val (.bl (arrowB m (a, b)))) [.val (.int m), .val (.tup [.int a, .int b])] := by
  rw [run_is_arrow]
  by_cases h : (decide (0 ≤ a) && decide (a < m)) = true <;> simp [arrowB, h]
end LW
end
section
set_option maxHeartbeats 400000
namespace LW
open PySem RF
open RF.Rp (rep)
theorem asc_iff {α : Type} [Od α] (xs : List α) : (∀ i : Nat, ∀ a b, xs[i]? = some a → xs[i + 1]? = some b → Od.lt a b) ↔ xs.Pairwise Od.lt := by
  constructor
  · induction xs with
    | nil => intro _; exact .nil
    | cons x xs ih =>
      intro h
      have h2 := ih fun i a b ha hb => h (i + 1) a b (by simpa using ha) (by simpa using hb)
      refine List.pairwise_cons.mpr ⟨?_, h2⟩
      intro y hy
      cases xs with
      | nil => cases hy
      | cons z zs =>
        have h0 := h 0 x z rfl rfl
        rcases List.mem_cons.mp hy with rfl | hy
        · exact h0
        · exact Od.trans _ _ _ h0 ((List.pairwise_cons.mp h2).1 y hy)
  · intro h i a b ha hb
    rw [List.pairwise_iff_getElem] at h
    obtain ⟨h1, rfl⟩ := List.getElem?_eq_some_iff.mp ha
    obtain ⟨h2, rfl⟩ := List.getElem?_eq_some_iff.mp hb
    exact h i (i + 1) h1 h2 (by omega)
def ascQ {α : Type} [Od α] (xs : List α) (i : Int) : Bool := match xs[(i - 1).toNat]?, xs[i.toNat]? with
  | some a, some b => decide (Od.lt a b)
  | _, _ => false
theorem ascQ_iff {α : Type} [Od α] (xs : List α) : (rg 1 xs.length).all (ascQ xs) = decide (xs.Pairwise Od.lt) := by
  rw [Bool.eq_iff_iff, decide_eq_true_eq, ← asc_iff, List.all_eq_true]
  constructor
  · intro h i a b ha hb
    have hl := (List.getElem?_eq_some_iff.mp hb).1
    have := h (i + 1) (by rw [rg_mem]; omega)
    unfold ascQ at this
    rw [show ((i : Int) + 1 - 1).toNat = i by omega, show ((i : Int) + 1).toNat = i + 1 by omega, ha, hb] at this
    exact of_decide_eq_true this
  · intro h i hi
    rw [rg_mem] at hi
    unfold ascQ
    have h1 : (i - 1).toNat < xs.length := by omega
    have h2 : i.toNat < xs.length := by omega
    have := h (i - 1).toNat xs[(i - 1).toNat] xs[i.toNat] (List.getElem?_eq_getElem h1) (by rw [show (i - 1).toNat + 1 = i.toNat by omega]; exact List.getElem?_eq_getElem h2)
    rw [List.getElem?_eq_getElem h1, List.getElem?_eq_getElem h2]
    exact decide_eq_true this
theorem are_rising_lc {n : Nat} {α : Type} [Sd α] (xs : List α) (hl : xs.length ≤ 1000) : evE (G n) are_rising_lc0 [.val (.tup (xs.map rep)), .dead] = .ok (.sl (.olst ((rg 1 xs.length).map fun i => .bl (ascQ xs i)))) [.val (.tup (xs.map rep)), .dead] := by
  unfold are_rising_lc0
  refine Eq.trans (lc_pure (G n) (v := .sl (.val .non)) (f := rep) (p := fun _ => true) (h := fun i => .bl (ascQ xs i)) (xs := rg 1 xs.length) ?_ ?_ ?_ ?_) (by simp)
  · simp (disch := first | omega | assumption | (unfold RF.sm; omega) | (unfold RF.sm64; omega) | (simp only [List.length_append, List.length_cons, List.length_nil, List.length_map]; omega) | (simp; omega) | simp)
  · rfl
  · rw [rg_len]; omega
  · intro i hi
    rw [rg_mem] at hi
    obtain ⟨k, rfl⟩ : ∃ k : Nat, i = k + 1 := ⟨(i - 1).toNat, by omega⟩
    have h1 : k < xs.length := by omega
    have h2 : k + 1 < xs.length := by omega
    simp (disch := first | omega | assumption | (unfold RF.sm; omega) | (unfold RF.sm64; omega) | (simp only [List.length_append, List.length_cons, List.length_nil, List.length_map]; omega) | (simp; omega) | simp) [lcTurn, wipeE, o2_lt_rep, ascQ]
@[simp] theorem are_rising_ok {n : Nat} {α : Type} [Sd α] (xs : List α) (hl : xs.length ≤ 1000) : sem X.t (n + 1) 4 [.val (.tup (xs.map rep))] = .ok (.val (.bl (decide (xs.Pairwise Od.lt)))) [.val (.tup (xs.map rep))] := by
  rw [run_are_rising]
  simp (disch := first | omega | assumption | (unfold RF.sm; omega) | (unfold RF.sm64; omega) | (simp only [List.length_append, List.length_cons, List.length_nil, List.length_map]; omega) | (simp; omega) | simp) [are_rising_lc, ← ascQ_iff]
end LW
end
section
set_option maxHeartbeats 400000
namespace LW
open PySem RF
open RF.Rp (rep)
theorem are_pairs_lc {n : Nat} (m : Int) (xs : List (Int × Int)) (hl : xs.length ≤ 1000) : evE (G (n + 3)) are_pairs_lc0 [.val (.int m), .val (.tup (xs.map rep)), .dead] = .ok (.sl (.olst (xs.map fun p => .bl (arrowB m p)))) [.val (.int m), .val (.tup (xs.map rep)), .dead] := by
  unfold are_pairs_lc0
  refine Eq.trans (lc_pure (G _) (v := .pl 1 []) (f := rep) (p := fun _ => true) (h := fun p => .bl (arrowB m p)) (xs := xs) ?_ ?_ ?_ ?_) (by simp)
  · simp (disch := first | omega | assumption | (unfold RF.sm; omega) | (unfold RF.sm64; omega) | (simp only [List.length_append, List.length_cons, List.length_nil, List.length_map]; omega) | (simp; omega) | simp)
  · rfl
  · omega
  · intro p hp
    simp (disch := first | omega | assumption | (unfold RF.sm; omega) | (unfold RF.sm64; omega) | (simp only [List.length_append, List.length_cons, List.length_nil, List.length_map]; omega) | (simp; omega) | simp) [lcTurn, wipeE]
@[simp] theorem are_pairs_ok {n : Nat} (m : Int) (xs : List (Int × Int)) (hl : xs.length ≤ 1000) : sem X.t (n + 4) 7 [.val (.int m), .val (.tup (xs.map rep))] = .ok (.val (.bl (xs.all (arrowB m) && decide (xs.Pairwise Od.lt)))) [.val (.int m), .val (.tup (xs.map rep))] := by
  rw [run_are_pairs]
  by_cases h : xs.all (arrowB m) = true
  · simp (disch := first | omega | assumption | (unfold RF.sm; omega) | (unfold RF.sm64; omega) | (simp only [List.length_append, List.length_cons, List.length_nil, List.length_map]; omega) | (simp; omega) | simp) [are_pairs_lc, h]
  · simp (disch := first | omega | assumption | (unfold RF.sm; omega) | (unfold RF.sm64; omega) | (simp only [List.length_append, List.length_cons, List.length_nil, List.length_map]; omega) | (simp; omega) | simp) [are_pairs_lc, h]
def rdy (m : Int) (ar : List (Int × Int)) (out : List Int) : List Int := (rg 0 m).filter fun one => !decide (one ∈ out) && ar.all fun p => !decide (p.2 = one) || decide (p.1 ∈ out)
def ordL (m : Int) (ar : List (Int × Int)) : Nat → List Int → List Int
  | 0, out => out
  | k + 1, out => match rdy m ar out with
    | [] => out
    | x :: _ => ordL m ar k (out ++ [x])
theorem ordered_in {n : Nat} {m one : Int} {ar : List (Int × Int)} {out : List Int} {j3 : Slot} (hl : ar.length ≤ 1000) : evE (G n) ordered_lc1 [.val (.int m), .val (.tup (ar.map rep)), .olst (out.map rep), j3, .val (.int one), .dead, .dead] = .ok (.sl (.olst ((ar.filter fun p => decide (p.2 = one)).map fun p => .bl (decide (p.1 ∈ out))))) [.val (.int m), .val (.tup (ar.map rep)), .olst (out.map rep), j3, .val (.int one), .dead, .dead] := by
  unfold ordered_lc1
  refine lc_pure (G _) (v := .pl 1 []) (f := rep) (p := fun p : Int × Int => decide (p.2 = one)) (h := fun p => .bl (decide (p.1 ∈ out))) (xs := ar) ?_ ?_ ?_ ?_
  · simp (disch := first | omega | assumption | (unfold RF.sm; omega) | (unfold RF.sm64; omega) | (simp only [List.length_append, List.length_cons, List.length_nil, List.length_map]; omega) | (simp; omega) | simp)
  · rfl
  · omega
  · intro p hp
    by_cases h : p.2 = one <;> simp (disch := first | omega | assumption | (unfold RF.sm; omega) | (unfold RF.sm64; omega) | (simp only [List.length_append, List.length_cons, List.length_nil, List.length_map]; omega) | (simp; omega) | simp) [lcTurn, wipeE, h]
theorem ordered_out {n : Nat} {m : Int} {ar : List (Int × Int)} {out : List Int} {j3 : Slot} (hl : ar.length ≤ 1000) (hm : sm m) : evE (G n) ordered_lc0 [.val (.int m), .val (.tup (ar.map rep)), .olst (out.map rep), j3, .dead, .dead, .dead] = .ok (.sl (.olst ((rdy m ar out).map rep))) [.val (.int m), .val (.tup (ar.map rep)), .olst (out.map rep), j3, .dead, .dead, .dead] := by
  unfold ordered_lc0
  refine lc_pure (G _) (v := .sl (.val .non)) (f := rep) (p := fun one => !decide (one ∈ out) && ar.all fun p => !decide (p.2 = one) || decide (p.1 ∈ out)) (h := rep) (xs := rg 0 m) ?_ ?_ ?_ ?_
  · simp (disch := first | omega | assumption | (unfold RF.sm; omega) | (unfold RF.sm64; omega) | (simp only [List.length_append, List.length_cons, List.length_nil, List.length_map]; omega) | (simp; omega) | simp)
  · rfl
  · rw [rg_len]; unfold sm at hm; omega
  · intro p hp
    simp (disch := first | omega | assumption | (unfold RF.sm; omega) | (unfold RF.sm64; omega) | (simp only [List.length_append, List.length_cons, List.length_nil, List.length_map]; omega) | (simp; omega) | simp) [lcTurn, wipeE, ordered_in]
theorem nodup_len {α : Type} [DecidableEq α] : ∀ {xs ys : List α}, xs.Nodup → (∀ x ∈ xs, x ∈ ys) → xs.length ≤ ys.length
  | [], ys, _, _ => Nat.zero_le _
  | x :: xs, ys, h, hs => by
    rw [List.nodup_cons] at h
    have h1 := nodup_len (ys := ys.erase x) h.2 fun y hy => (List.mem_erase_of_ne (by rintro rfl; exact h.1 hy)).mpr (hs y (List.mem_cons_of_mem _ hy))
    rw [List.length_erase_of_mem (hs x List.mem_cons_self)] at h1
    have := List.length_pos_of_mem (hs x List.mem_cons_self)
    rw [List.length_cons]
    omega
theorem rdy_mem {m : Int} {ar : List (Int × Int)} {out : List Int} {x : Int} : x ∈ rdy m ar out ↔ (0 ≤ x ∧ x < m) ∧ x ∉ out ∧ ∀ p ∈ ar, p.2 = x → p.1 ∈ out := by
  unfold rdy
  rw [List.mem_filter, rg_mem]
  simp only [Bool.and_eq_true, Bool.not_eq_true', decide_eq_false_iff_not, List.all_eq_true, Bool.or_eq_true, decide_eq_true_eq]
  constructor
  · rintro ⟨a, b, c⟩
    exact ⟨a, b, fun p hp e => (c p hp).resolve_left fun q => q e⟩
  · rintro ⟨a, b, c⟩
    exact ⟨a, b, fun p hp => Decidable.or_iff_not_imp_left.mpr fun e => c p hp (Decidable.not_not.mp e)⟩
theorem ordered_w {n : Nat} {m : Int} {ar : List (Int × Int)} (hl : ar.length ≤ 1000) (h0 : 0 ≤ m) (hm : m ≤ 1000) : ∃ e', evS (G n) ordered_whl0 [.val (.int m), .val (.tup (ar.map rep)), .olst [], .dead, .dead, .dead, .dead] = .rt (.val (.tup ((ordL m ar m.toNat []).map rep))) (.val (.int m) :: .val (.tup (ar.map rep)) :: e') := by
  unfold ordered_whl0
  rw [es_whl]
  refine whl_rule (I := fun e => ∃ k out j3, e = [.val (.int m), .val (.tup (ar.map rep)), .olst (out.map rep), j3, .dead, .dead, .dead] ∧ out.length + k = m.toNat ∧ out.Nodup ∧ (∀ x ∈ out, x ∈ rg 0 m) ∧ ordL m ar k out = ordL m ar m.toNat [])
    (μ := fun e => m.toNat - lenAt 2 e) (P := fun r => ∃ e', r = .rt (.val (.tup ((ordL m ar m.toNat []).map rep))) (.val (.int m) :: .val (.tup (ar.map rep)) :: e')) ?_ 4000 _ ⟨m.toNat, [], .dead, rfl, by simp, .nil, nofun, rfl⟩ (by simp; omega)
  rintro e ⟨k, out, j3, rfl, hk, nd, sub, ho⟩
  refine ⟨true, _, by simp; rfl, by simp, fun _ => ?_⟩
  have o := ordered_out (n := n) (m := m) (out := out) (j3 := j3) hl (by unfold sm; omega)
  have hout : out.length ≤ 1000 := by omega
  cases z : rdy m ar out with
  | nil =>
    have e1 : ordL m ar k out = out := by
      cases k with
      | zero => rfl
      | succ k => rw [ordL, z]
    rw [← ho, e1]
    exact turn_end _ _ (by (simp (disch := first | omega | assumption | (unfold RF.sm; omega) | (unfold RF.sm64; omega) | (simp only [List.length_append, List.length_cons, List.length_nil, List.length_map]; omega) | (simp; omega) | simp) [o, z]; first | done | rfl | exact ⟨rfl, rfl⟩)) ⟨_, rfl⟩
  | cons x r =>
    have hx := rdy_mem.mp (z ▸ List.mem_cons_self : x ∈ rdy m ar out)
    have nd2 : (out ++ [x]).Nodup := by
      rw [List.nodup_append]
      exact ⟨nd, by simp, fun a ha b hb e => hx.2.1 (by simp at hb; rw [← hb, ← e]; exact ha)⟩
    have sub2 : ∀ y ∈ out ++ [x], y ∈ rg 0 m := by
      intro y hy
      rcases List.mem_append.mp hy with q | q
      · exact sub y q
      · rw [List.mem_singleton.mp q, rg_mem]; exact hx.1
    have l2 := nodup_len nd2 sub2
    rw [rg_len, List.length_append, List.length_singleton] at l2
    cases k with
    | zero => omega
    | succ k =>
      refine turn_go [.val (.int m), .val (.tup (ar.map rep)), .olst ((out ++ [x]).map rep), .olst ((x :: r).map rep), .dead, .dead, .dead] (by simp (disch := first | omega | assumption | (unfold RF.sm; omega) | (unfold RF.sm64; omega) | (simp only [List.length_append, List.length_cons, List.length_nil, List.length_map]; omega) | (simp; omega) | simp) [o, z]) rfl ⟨⟨k, out ++ [x], _, rfl, by simp; omega, nd2, sub2, by rw [← ho, ordL, z]⟩, by simp; omega⟩
@[simp] theorem ordered_ok {n : Nat} {m : Int} {ar : List (Int × Int)} (hl : ar.length ≤ 1000) (h0 : 0 ≤ m) (hm : m ≤ 1000) : sem X.t (n + 1) 8 [.val (.int m), .val (.tup (ar.map rep))] = .ok (.val (.tup ((ordL m ar m.toNat []).map rep))) [.val (.int m), .val (.tup (ar.map rep))] := by
  rw [run_ordered]
  obtain ⟨e', h⟩ := ordered_w (n := n) hl h0 hm
  simp (disch := first | omega | assumption | (unfold RF.sm; omega) | (unfold RF.sm64; omega) | (simp only [List.length_append, List.length_cons, List.length_nil, List.length_map]; omega) | (simp; omega) | simp) [h]
structure WebOk (m : Int) (ar ti : List (Int × Int)) : Prop where
  m1 : 1 ≤ m
  m6 : m ≤ 6
  la : ar.length ≤ 1000
  aa : ∀ p ∈ ar, (0 ≤ p.1 ∧ p.1 < m) ∧ (0 ≤ p.2 ∧ p.2 < m) ∧ p.1 ≠ p.2
  ap : ar.Pairwise Od.lt
  ao : (ordL m ar m.toNat []).length = m.toNat
  lt : ti.length ≤ 6
  ta : ∀ p ∈ ti, 0 ≤ p.1 ∧ p.1 < p.2 ∧ p.2 < m
  tp : ti.Pairwise Od.lt
def webS (m : Int) (ar ti : List (Int × Int)) : Slot := .oins 4 [(1, .val (.int m)), (2, .val (.tup (ar.map rep))), (3, .val (.tup (ti.map rep)))]
@[simp] theorem webS_plc (m : Int) (ar ti : List (Int × Int)) (i : Nat) (fs : List Nat) (e : RF.Env) : plcK i fs e (some (webS m ar ti)) = .ok (.pl i fs) e := (rfl)
@[simp] theorem webS_live (m : Int) (ar ti : List (Int × Int)) : live (webS m ar ti) = true := by simp [webS]
@[simp] theorem webS_owned (m : Int) (ar ti : List (Int × Int)) : owned (webS m ar ti) = true := (rfl)
@[simp] theorem webS_many (m : Int) (ar ti : List (Int × Int)) : getS (webS m ar ti) [1] = some (.val (.int m)) := by simp [webS]
@[simp] theorem webS_arrows (m : Int) (ar ti : List (Int × Int)) : getS (webS m ar ti) [2] = some (.val (.tup (ar.map rep))) := by simp [webS]
@[simp] theorem webS_ties (m : Int) (ar ti : List (Int × Int)) : getS (webS m ar ti) [3] = some (.val (.tup (ti.map rep))) := by simp [webS]
theorem WebOk.a1 {m : Int} {ar ti : List (Int × Int)} (h : WebOk m ar ti) : ar.all (arrowB m) = true := by
  rw [List.all_eq_true]
  intro p hp
  have := h.aa p hp
  simp [arrowB, this]
theorem WebOk.t1 {m : Int} {ar ti : List (Int × Int)} (h : WebOk m ar ti) : ti.all (arrowB m) = true := by
  rw [List.all_eq_true]
  intro p hp
  have := h.ta p hp
  simp [arrowB]
  omega
theorem WebOk.t2 {m : Int} {ar ti : List (Int × Int)} (h : WebOk m ar ti) : (ti.any fun p => decide (p.2 < p.1)) = false := by
  rw [List.any_eq_false]
  intro p hp
  have := h.ta p hp
  simp
  omega
theorem Web_init_lc {n : Nat} {s0 s1 s2 : Slot} {ti : List (Int × Int)} (hl : ti.length ≤ 1000) : evE (G n) Web_init_lc0 [s0, s1, s2, .val (.tup (ti.map rep)), .dead, .dead] = .ok (.sl (.olst (ti.map fun p => .bl (decide (p.2 < p.1))))) [s0, s1, s2, .val (.tup (ti.map rep)), .dead, .dead] := by
  unfold Web_init_lc0
  refine Eq.trans (lc_pure (G _) (v := .pl 3 []) (f := rep) (p := fun _ => true) (h := fun p : Int × Int => .bl (decide (p.2 < p.1))) (xs := ti) ?_ ?_ ?_ ?_) (by simp)
  · simp (disch := first | omega | assumption | (unfold RF.sm; omega) | (unfold RF.sm64; omega) | (simp only [List.length_append, List.length_cons, List.length_nil, List.length_map]; omega) | (simp; omega) | simp)
  · rfl
  · omega
  · intro p hp
    simp (disch := first | omega | assumption | (unfold RF.sm; omega) | (unfold RF.sm64; omega) | (simp only [List.length_append, List.length_cons, List.length_nil, List.length_map]; omega) | (simp; omega) | simp) [lcTurn, wipeE]
theorem Web_init_ok {n : Nat} {m : Int} {ar ti : List (Int × Int)} (h : WebOk m ar ti) : sem X.t (n + 5) 9 [.oins 4 [], .val (.int m), .val (.tup (ar.map rep)), .val (.tup (ti.map rep))] = .ok (.val .non) [webS m ar ti, .val (.int m), .val (.tup (ar.map rep)), .val (.tup (ti.map rep))] := by
  rw [run_Web_init]
  have h1 := h.m1
  have h2 := h.m6
  have h3 := h.la
  have h4 := h.lt
  have h5 : ti.length ≤ 1000 := by omega
  have h6 := h.ao
  have h7 : ¬ (max m 0 < m) := by omega
  have h8 : ¬ (6 < (ti.length : Int)) := by omega
  simp (disch := first | omega | assumption | (unfold RF.sm; omega) | (unfold RF.sm64; omega) | (simp only [List.length_append, List.length_cons, List.length_nil, List.length_map]; omega) | (simp; omega) | simp) [h.a1, h.t1, h.ap, h.tp, h6, h7, h8, h.t2, Web_init_lc, webS, h1, h2]
end LW
end
section
set_option maxHeartbeats 400000
namespace LW
open PySem RF
open RF.Rp (rep)
def nn (ns : List Int) : Prop := ∀ d ∈ ns, 0 ≤ d
theorem nn_nil : nn [] := nofun
theorem nn_snoc {ns : List Int} {k : Int} (h : nn ns) (hk : 0 ≤ k) : nn (ns ++ [k]) := fun d hd => by
  rcases List.mem_append.mp hd with q | q
  · exact h d q
  · rw [List.mem_singleton.mp q]; exact hk
theorem draws_for0 {n : Nat} {s0 : Slot} {m big : Int} (hm : 0 ≤ m) (hm1 : m ≤ 1000) : Nx (fun e => ∃ (row : List Int) (b : Int) (j : Slot), e = [s0, .val (.int m), .olst (row.map rep), .val (.int b), .dead, j, .dead] ∧ nn row ∧ row.length ≤ m.toNat) (evS (G n) _law_draws_for0 [s0, .val (.int m), .olst [], .val (.int big), .dead, .dead, .dead]) := by
  unfold _law_draws_for0
  refine for_P (v := .sl (.val .non)) rep (rg 0 m) (by simp (disch := first | omega | assumption | (unfold RF.sm; omega) | (unfold RF.sm64; omega) | (simp only [List.length_append, List.length_cons, List.length_nil, List.length_map]; omega) | (simp; omega) | simp)) (fun pre post e => ∃ (row : List Int) (b : Int) (j : Slot), e = [s0, .val (.int m), .olst (row.map rep), .val (.int b), .dead, j, .dead] ∧ nn row ∧ row.length ≤ pre.length) ⟨[], big, .dead, rfl, nn_nil, by simp⟩ ?_ ?_
  · rintro pre x post e he ⟨row, b, j, rfl, h1, h2⟩
    have h3 := congrArg List.length he
    rw [rg_len, List.length_append, List.length_cons] at h3
    by_cases hb : 0 < b
    · refine turn_go [s0, .val (.int m), .olst ((row ++ [b % 1009]).map rep), .val (.int (b / 1009)), .dead, .val (.int x), .dead] (by simp (disch := first | omega | assumption | (unfold RF.sm; omega) | (unfold RF.sm64; omega) | (simp only [List.length_append, List.length_cons, List.length_nil, List.length_map]; omega) | (simp; omega) | simp) [hb]) rfl ⟨row ++ [b % 1009], b / 1009, _, rfl, nn_snoc h1 (by omega), by simp; omega⟩
    · refine turn_go [s0, .val (.int m), .olst (row.map rep), .val (.int b), .dead, .val (.int x), .dead] (by simp (disch := first | omega | assumption | (unfold RF.sm; omega) | (unfold RF.sm64; omega) | (simp only [List.length_append, List.length_cons, List.length_nil, List.length_map]; omega) | (simp; omega) | simp) [hb]) rfl ⟨row, b, _, rfl, h1, by simp; omega⟩
  · rintro e ⟨row, b, j, rfl, h1, h2⟩
    exact .mk _ ⟨row, b, j, rfl, h1, by rw [rg_len] at h2; omega⟩
theorem draws_for1 {n : Nat} {ns row0 : List Int} {s3 j5 : Slot} {m seed : Int} (hn : ns.length ≤ 63) (hm : 0 ≤ m) (hm1 : m ≤ 1000) (h0 : nn row0) (hr : row0.length ≤ m.toNat) (hs : 0 ≤ seed) (hs1 : seed < 2147483647) : Nx (fun e => ∃ (row : List Int) (a b c : Slot), e = [.val (.xls (ns.map rep)), .val (.int m), .olst (row.map rep), s3, a, b, c] ∧ nn row ∧ row.length = m.toNat) (evS (G n) _law_draws_for1 [.val (.xls (ns.map rep)), .val (.int m), .olst (row0.map rep), s3, .val (.int seed), j5, .dead]) := by
  unfold _law_draws_for1
  refine for_P (v := .sl (.val .non)) rep (rg 0 (m - row0.length)) (by simp (disch := first | omega | assumption | (unfold RF.sm; omega) | (unfold RF.sm64; omega) | (simp only [List.length_append, List.length_cons, List.length_nil, List.length_map]; omega) | (simp; omega) | simp)) (fun pre post e => ∃ (row : List Int) (sd : Int) (j5 j6 : Slot), e = [.val (.xls (ns.map rep)), .val (.int m), .olst (row.map rep), s3, .val (.int sd), j5, j6] ∧ nn row ∧ row.length + post.length = m.toNat ∧ 0 ≤ sd ∧ sd < 2147483647) ⟨row0, seed, j5, .dead, rfl, h0, by rw [rg_len]; omega, hs, hs1⟩ ?_ ?_
  · rintro pre x post e he ⟨row, sd, j5, j6, rfl, h1, h2, h3, h4⟩
    rw [List.length_cons] at h2
    have hx : x ∈ rg 0 (m - row0.length) := by rw [he]; simp
    rw [rg_mem] at hx
    by_cases hns : ns = []
    · subst hns
      refine turn_go _ (by simp (disch := first | omega | assumption | (unfold RF.sm; omega) | (unfold RF.sm64; omega) | (simp only [List.length_append, List.length_cons, List.length_nil, List.length_map]; omega) | (simp; omega) | simp); rfl) rfl ⟨row ++ [_], _, _, _, by rw [List.map_append]; rfl, nn_snoc h1 ?_, ?_, ?_, ?_⟩
      all_goals first | omega | exact Int.emod_nonneg _ (by decide) | exact Int.emod_lt_of_pos _ (by decide) | (simp; omega)
    · have e1 : ns.isEmpty = false := by simpa using hns
      have hl : 0 < ns.length := List.length_pos_iff.mpr hns
      have hk0 := Int.emod_nonneg (x + 1) (show (ns.length : Int) ≠ 0 by omega)
      have hk1 := Int.emod_lt_of_pos (x + 1) (show 0 < (ns.length : Int) by omega)
      refine turn_go _ (by simp (disch := first | omega | assumption | (unfold RF.sm; omega) | (unfold RF.sm64; omega) | (simp only [List.length_append, List.length_cons, List.length_nil, List.length_map]; omega) | (simp; omega) | simp) [e1, hns]; rfl) rfl ⟨row ++ [_], _, _, _, by rw [List.map_append]; rfl, nn_snoc h1 ?_, ?_, ?_, ?_⟩
      all_goals first | omega | exact Int.emod_nonneg _ (by decide) | exact Int.emod_lt_of_pos _ (by decide) | (simp; omega)
  · rintro e ⟨row, sd, j5, j6, rfl, h1, h2, h3⟩
    exact .mk _ ⟨row, _, _, _, rfl, h1, by simpa using h2⟩
theorem draws_ok {n : Nat} {ns : List Int} {m : Int} (hn : ns.length ≤ 63) (hm : 0 ≤ m) (hm1 : m ≤ 1000) : ∃ ds : List Int, sem X.t (n + 1) 31 [.val (.xls (ns.map rep)), .val (.int m)] = .ok (.olst (ds.map rep)) [.val (.xls (ns.map rep)), .val (.int m)] ∧ nn ds ∧ ds.length = m.toNat := by
  suffices k : Rt (fun s bs => ∃ ds : List Int, s = .olst (ds.map rep) ∧ bs = [.val (.xls (ns.map rep)), .val (.int m)] ∧ nn ds ∧ ds.length = m.toNat) (sem X.t (n + 1) 31 [.val (.xls (ns.map rep)), .val (.int m)]) by
    obtain ⟨s, bs, h, ds, rfl, rfl, h2⟩ := rt_elim k
    exact ⟨ds, h, h2⟩
  rw [run__law_draws]
  refine seq_step [.val (.xls (ns.map rep)), .val (.int m), .olst [], .dead, .dead, .dead, .dead] (by simp (disch := first | omega | assumption | (unfold RF.sm; omega) | (unfold RF.sm64; omega) | (simp only [List.length_append, List.length_cons, List.length_nil, List.length_map]; omega) | (simp; omega) | simp)) ?_
  refine seq_ex (fun b : Int => [.val (.xls (ns.map rep)), .val (.int m), .olst [], .val (.int b), .dead, .dead, .dead]) (fun _ => True) (by
    cases ns with
    | nil => exact ⟨0, by simp (disch := first | omega | assumption | (unfold RF.sm; omega) | (unfold RF.sm64; omega) | (simp only [List.length_append, List.length_cons, List.length_nil, List.length_map]; omega) | (simp; omega) | simp), trivial⟩
    | cons a r => exact ⟨a, by simp (disch := first | omega | assumption | (unfold RF.sm; omega) | (unfold RF.sm64; omega) | (simp only [List.length_append, List.length_cons, List.length_nil, List.length_map]; omega) | (simp; omega) | simp), trivial⟩) fun b _ => ?_
  refine seq_ex (fun b : Int => [.val (.xls (ns.map rep)), .val (.int m), .olst [], .val (.int b), .dead, .dead, .dead]) (fun _ => True) (by
    by_cases h : b < 0
    · exact ⟨-b, by simp (disch := first | omega | assumption | (unfold RF.sm; omega) | (unfold RF.sm64; omega) | (simp only [List.length_append, List.length_cons, List.length_nil, List.length_map]; omega) | (simp; omega) | simp) [h], trivial⟩
    · exact ⟨b, by simp (disch := first | omega | assumption | (unfold RF.sm; omega) | (unfold RF.sm64; omega) | (simp only [List.length_append, List.length_cons, List.length_nil, List.length_map]; omega) | (simp; omega) | simp) [h], trivial⟩) fun b _ => ?_
  refine seq_ex (fun p : List Int × Int × Slot => [.val (.xls (ns.map rep)), .val (.int m), .olst (p.1.map rep), .val (.int p.2.1), .dead, p.2.2, .dead]) (fun p => nn p.1 ∧ p.1.length ≤ m.toNat) (by
    by_cases h : 1000000000000000000 ≤ b
    · obtain ⟨e, h1, row, b', j, rfl, h2, h3⟩ := nx_elim (draws_for0 (n := n) (s0 := .val (.xls (ns.map rep))) (big := b) hm hm1)
      exact ⟨(row, b', j), by simp (disch := first | omega | assumption | (unfold RF.sm; omega) | (unfold RF.sm64; omega) | (simp only [List.length_append, List.length_cons, List.length_nil, List.length_map]; omega) | (simp; omega) | simp) [h, h1], h2, h3⟩
    · exact ⟨([], b, .dead), by simp (disch := first | omega | assumption | (unfold RF.sm; omega) | (unfold RF.sm64; omega) | (simp only [List.length_append, List.length_cons, List.length_nil, List.length_map]; omega) | (simp; omega) | simp) [h], nn_nil, by simp⟩) fun p hp => ?_
  refine seq_step _ (by simp (disch := first | omega | assumption | (unfold RF.sm; omega) | (unfold RF.sm64; omega) | (simp only [List.length_append, List.length_cons, List.length_nil, List.length_map]; omega) | (simp; omega) | simp); rfl) ?_
  refine nx_seq (draws_for1 hn hm hm1 hp.1 hp.2 (by decide) (by decide)) ?_
  rintro _ ⟨row, a, b, c, rfl, h2, h3⟩
  exact rt_of _ _ (by simp (disch := first | omega | assumption | (unfold RF.sm; omega) | (unfold RF.sm64; omega) | (simp only [List.length_append, List.length_cons, List.length_nil, List.length_map]; omega) | (simp; omega) | simp); first | done | exact ⟨rfl, rfl⟩) ⟨row, rfl, rfl, h2, h3⟩
def nk (k : Nat) (ds : List Int) : Prop := nn ds ∧ k ≤ ds.length
theorem nk.mono {k j : Nat} {ds : List Int} (h : nk k ds) (hj : j ≤ k) : nk j ds := ⟨h.1, Nat.le_trans hj h.2⟩
theorem take_k {n k : Nat} {ds : List Int} {m : Int} (h : nk (k + 1) ds) (hm : 0 < m) : ∃ (v : Int) (ds' : List Int), sem X.t (n + 1) 32 [.olst (ds.map rep), .val (.int m)] = .ok (.val (.int v)) [.olst (ds'.map rep), .val (.int m)] ∧ 0 ≤ v ∧ v < m ∧ nk k ds' := by
  obtain ⟨h, hk⟩ := h
  rcases List.eq_nil_or_concat ds with rfl | ⟨as, a, rfl⟩
  · simp at hk
  · rw [List.concat_eq_append] at *
    refine ⟨a % m, as, ?_, Int.emod_nonneg _ (by omega), Int.emod_lt_of_pos _ hm, fun d hd => h d (List.mem_append_left _ hd), by simpa using hk⟩
    rw [run__law_take]
    have e1 : (List.map rep as ++ [PV.int a]).isEmpty = false := by simp
    simp (disch := first | omega | assumption | (unfold RF.sm; omega) | (unfold RF.sm64; omega) | (simp only [List.length_append, List.length_cons, List.length_nil, List.length_map]; omega) | (simp; omega) | simp) [e1]
theorem draws_k {n : Nat} {ns : List Int} {m : Int} (hn : ns.length ≤ 63) (hm : 0 ≤ m) (hm1 : m ≤ 1000) : ∃ ds : List Int, sem X.t (n + 1) 31 [.val (.xls (ns.map rep)), .val (.int m)] = .ok (.olst (ds.map rep)) [.val (.xls (ns.map rep)), .val (.int m)] ∧ nk m.toNat ds := by
  obtain ⟨ds, h1, h2, h3⟩ := draws_ok (n := n) hn hm hm1
  exact ⟨ds, h1, h2, by omega⟩
end LW
end
section
set_option maxHeartbeats 400000
namespace LW
open PySem RF
open RF.Rp (rep)
theorem rg_split {a b x : Int} {pre post : List Int} (h : rg a b = pre ++ x :: post) : x = a + pre.length ∧ (pre.length : Int) < b - a ∧ pre.length + 1 + post.length = (b - a).toNat := by
  have h1 : (rg a b)[pre.length]? = some x := by rw [h]; simp
  have h2 := congrArg List.length h
  rw [rg_len, List.length_append, List.length_cons] at h2
  have := rg_get h1
  exact ⟨this.1, this.2, by omega⟩
theorem eraseIdx_map {α β : Type} (f : α → β) : ∀ (l : List α) (i : Nat), (l.map f).eraseIdx i = (l.eraseIdx i).map f
  | [], i => by simp
  | a :: l, 0 => by simp
  | a :: l, i + 1 => by simp [eraseIdx_map f l i]
theorem erase_perm {α : Type} : ∀ (l : List α) (i : Nat) (h : i < l.length), (l[i] :: l.eraseIdx i).Perm l
  | a :: l, 0, _ => by simp
  | a :: l, i + 1, h => by
    have := erase_perm l i (by simpa using h)
    simp only [List.getElem_cons_succ, List.eraseIdx_cons_succ]
    exact (List.Perm.swap _ _ _).trans (this.cons a)
theorem order_for {n k : Nat} {ds : List Int} {m : Int} (hd : nk (k + m.toNat) ds) (hm : 0 ≤ m) (hm1 : m ≤ 1000) : Nx (fun e => ∃ (ds' out : List Int) (j : Slot), e = [.olst (ds'.map rep), .val (.int m), .olst [], .olst (out.map rep), j] ∧ nk k ds' ∧ out.Perm (rg 0 m)) (evS (G (n + 1)) _law_order_for0 [.olst (ds.map rep), .val (.int m), .olst ((rg 0 m).map rep), .olst [], .dead]) := by
  unfold _law_order_for0
  refine for_P (v := .sl (.val .non)) rep (rg 0 m) (by simp (disch := first | omega | assumption | (unfold RF.sm; omega) | (unfold RF.sm64; omega) | (simp only [List.length_append, List.length_cons, List.length_nil, List.length_map]; omega) | (simp; omega) | simp)) (fun pre post e => ∃ (ds' left out : List Int) (j : Slot), e = [.olst (ds'.map rep), .val (.int m), .olst (left.map rep), .olst (out.map rep), j] ∧ nk (k + post.length) ds' ∧ (out ++ left).Perm (rg 0 m) ∧ left.length = post.length) ⟨ds, rg 0 m, [], .dead, rfl, by rw [rg_len]; simpa using hd, by simp, rfl⟩ ?_ ?_
  · rintro pre x post e he ⟨ds', left, out, j, rfl, h1, h2, h3⟩
    rw [List.length_cons] at h3
    have hp := rg_split he
    have ho := h2.length_eq
    rw [List.length_append, rg_len] at ho
    obtain ⟨v, ds2, h4, h5, h6, h7⟩ := take_k (n := n) (k := k + post.length) h1 (m := left.length) (by omega)
    have hv : v.toNat < left.length := by omega
    refine turn_go [.olst (ds2.map rep), .val (.int m), .olst ((left.eraseIdx v.toNat).map rep), .olst ((out ++ [left[v.toNat]]).map rep), .val (.int x)] (by simp (disch := first | omega | assumption | (unfold RF.sm; omega) | (unfold RF.sm64; omega) | (simp only [List.length_append, List.length_cons, List.length_nil, List.length_map]; omega) | (simp; omega) | simp) [h4, eraseIdx_map]) rfl ⟨ds2, _, _, _, rfl, h7, ?_, ?_⟩
    · refine List.Perm.trans ?_ h2
      rw [List.append_assoc]
      refine List.Perm.append_left _ ?_
      exact erase_perm left _ hv
    · rw [List.length_eraseIdx_of_lt hv]; omega
  · rintro e ⟨ds', left, out, j, rfl, h1, h2, h3⟩
    have : left = [] := List.eq_nil_of_length_eq_zero h3
    subst this
    exact .mk _ ⟨ds', out, j, rfl, h1, by simpa using h2⟩
theorem order_k {n k : Nat} {ds : List Int} {m : Int} (hd : nk (k + m.toNat) ds) (hm : 0 ≤ m) (hm1 : m ≤ 1000) : ∃ (ds' out : List Int), sem X.t (n + 2) 33 [.olst (ds.map rep), .val (.int m)] = .ok (.olst (out.map rep)) [.olst (ds'.map rep), .val (.int m)] ∧ nk k ds' ∧ out.Perm (rg 0 m) := by
  suffices kk : Rt (fun s bs => ∃ (ds' out : List Int), s = .olst (out.map rep) ∧ bs = [.olst (ds'.map rep), .val (.int m)] ∧ nk k ds' ∧ out.Perm (rg 0 m)) (sem X.t (n + 2) 33 [.olst (ds.map rep), .val (.int m)]) by
    obtain ⟨s, bs, h, ds', out, rfl, rfl, h2⟩ := rt_elim kk
    exact ⟨ds', out, h, h2⟩
  rw [run__law_order]
  refine seq_step _ (by simp (disch := first | omega | assumption | (unfold RF.sm; omega) | (unfold RF.sm64; omega) | (simp only [List.length_append, List.length_cons, List.length_nil, List.length_map]; omega) | (simp; omega) | simp); rfl) ?_
  refine seq_step _ (by simp (disch := first | omega | assumption | (unfold RF.sm; omega) | (unfold RF.sm64; omega) | (simp only [List.length_append, List.length_cons, List.length_nil, List.length_map]; omega) | (simp; omega) | simp); rfl) ?_
  refine nx_seq (order_for hd hm hm1) ?_
  rintro _ ⟨ds', out, j, rfl, h2, h3⟩
  exact rt_of _ _ (by simp (disch := first | omega | assumption | (unfold RF.sm; omega) | (unfold RF.sm64; omega) | (simp only [List.length_append, List.length_cons, List.length_nil, List.length_map]; omega) | (simp; omega) | simp); first | done | exact ⟨rfl, rfl⟩) ⟨ds', out, rfl, rfl, h2, h3⟩
theorem ordL_full {m : Int} {ar : List (Int × Int)} {ord : List Int} (hn : ord.Nodup) (ho : ∀ x, x ∈ rg 0 m → x ∈ ord) (ha : ∀ p ∈ ar, p.1 ∈ rg 0 m ∧ ∃ i j : Nat, i < j ∧ ord[i]? = some p.1 ∧ ord[j]? = some p.2) : ∀ (k : Nat) (out : List Int), out.length + k = m.toNat → out.Nodup → (∀ x ∈ out, x ∈ rg 0 m) → (ordL m ar k out).length = m.toNat
  | 0, out, h, _, _ => by rw [ordL]; omega
  | k + 1, out, h, nd, sub => by
    have key : ∀ i : Nat, ∀ x, ord[i]? = some x → x ∈ rg 0 m → x ∉ out → ∃ y, y ∈ rdy m ar out := by
      intro i
      induction i using Nat.strongRecOn with
      | _ i ih =>
        intro x hx hr hno
        by_cases c : ∀ p ∈ ar, p.2 = x → p.1 ∈ out
        · exact ⟨x, rdy_mem.mpr ⟨rg_mem.mp hr, hno, c⟩⟩
        · simp only [Classical.not_forall] at c
          obtain ⟨p, hp, he, hpo⟩ := c
          obtain ⟨h1, i', j', hij, hi', hj'⟩ := ha p hp
          have : j' = i := by
            subst he
            obtain ⟨l1, e1⟩ := List.getElem?_eq_some_iff.mp hj'
            obtain ⟨l2, e2⟩ := List.getElem?_eq_some_iff.mp hx
            exact (List.getElem_inj hn).mp (e1.trans e2.symm)
          exact ih i' (by omega) p.1 hi' h1 hpo
    have ex : ∃ x, x ∈ rg 0 m ∧ x ∉ out := by
      apply Classical.byContradiction
      intro c
      have : ∀ x ∈ rg 0 m, x ∈ out := fun x hx => Classical.byContradiction fun q => c ⟨x, hx, q⟩
      have := nodup_len ((rg_asc 0 m).imp fun h => by omega) this
      rw [rg_len] at this
      omega
    obtain ⟨x, hx, hno⟩ := ex
    obtain ⟨i, hi⟩ := List.getElem?_of_mem (ho x hx)
    obtain ⟨y, hy⟩ := key i x hi hx hno
    rw [ordL]
    cases z : rdy m ar out with
    | nil => rw [z] at hy; cases hy
    | cons a r =>
      dsimp only
      have hq := rdy_mem.mp (z ▸ List.mem_cons_self : a ∈ rdy m ar out)
      refine ordL_full hn ho ha k _ (by simp; omega) ?_ ?_
      · rw [List.nodup_append]
        exact ⟨nd, by simp, fun u hu v hv e => hq.2.1 (by simp at hv; rw [← hv, ← e]; exact hu)⟩
      · intro u hu
        rcases List.mem_append.mp hu with q | q
        · exact sub u q
        · rw [List.mem_singleton.mp q, rg_mem]; exact hq.1
end LW
end
section
set_option maxHeartbeats 1000000
namespace LW
open PySem RF
open RF.Rp (rep)
def Fit (ord : List Int) (ahead : Nat → Nat → Prop) (p : Int × Int) : Prop := ∃ i j : Nat, ahead i j ∧ i < j ∧ j < ord.length ∧ p = (ord.getD i 0, ord.getD j 0)
def Fut (ord : List Int) (ahead : Nat → Nat → Prop) (p : Int × Int) : Prop := ∃ i j : Nat, ahead i j ∧ i < j ∧ j < ord.length ∧ p = (min (ord.getD i 0) (ord.getD j 0), max (ord.getD i 0) (ord.getD j 0))
theorem getD_inj {ord : List Int} (h : ord.Nodup) {i j : Nat} (hi : i < ord.length) (hj : j < ord.length) (e : ord.getD i 0 = ord.getD j 0) : i = j := by
  rw [List.getD_eq_getElem?_getD, List.getD_eq_getElem?_getD, List.getElem?_eq_getElem hi, List.getElem?_eq_getElem hj] at e
  exact (List.getElem_inj h).mp e
theorem fit_new {ord : List Int} (h : ord.Nodup) {A : Nat → Nat → Prop} {ar : List (Int × Int)} (ha : ∀ p ∈ ar, Fit ord A p) (nd : ar.Nodup) {i j : Nat} (hn : ¬ A i j) (hij : i < j) (hj : j < ord.length) : (ar ++ [(ord.getD i 0, ord.getD j 0)]).Nodup := by
  rw [List.nodup_append]
  refine ⟨nd, by simp, fun p hp q hq e => ?_⟩
  rw [List.mem_singleton] at hq
  subst hq
  obtain ⟨i', j', h1, h2, h3, h4⟩ := ha p hp
  rw [e, Prod.mk.injEq] at h4
  have e1 := getD_inj h (by omega) (by omega) h4.1
  have e2 := getD_inj h (by omega) (by omega) h4.2
  subst e1; subst e2
  exact hn h1
theorem fut_new {ord : List Int} (h : ord.Nodup) {A : Nat → Nat → Prop} {ar : List (Int × Int)} (ha : ∀ p ∈ ar, Fut ord A p) (nd : ar.Nodup) {i j : Nat} (hn : ¬ A i j) (hij : i < j) (hj : j < ord.length) : (ar ++ [(min (ord.getD i 0) (ord.getD j 0), max (ord.getD i 0) (ord.getD j 0))]).Nodup := by
  rw [List.nodup_append]
  refine ⟨nd, by simp, fun p hp q hq e => ?_⟩
  rw [List.mem_singleton] at hq
  subst hq
  obtain ⟨i', j', h1, h2, h3, h4⟩ := ha p hp
  rw [e, Prod.mk.injEq] at h4
  have : (ord.getD i 0 = ord.getD i' 0 ∧ ord.getD j 0 = ord.getD j' 0) ∨ (ord.getD i 0 = ord.getD j' 0 ∧ ord.getD j 0 = ord.getD i' 0) := by omega
  rcases this with ⟨a, b⟩ | ⟨a, b⟩
  · have e1 := getD_inj h (by omega) (by omega) a
    have e2 := getD_inj h (by omega) (by omega) b
    subst e1; subst e2
    exact hn h1
  · have e1 := getD_inj h (by omega) (by omega) a
    have e2 := getD_inj h (by omega) (by omega) b
    omega
theorem fit_snoc {ord : List Int} {A B : Nat → Nat → Prop} {ar : List (Int × Int)} (ha : ∀ p ∈ ar, Fit ord A p) {i j : Nat} (hB : ∀ i' j', A i' j' → B i' j') (hn : B i j) (hij : i < j) (hj : j < ord.length) : ∀ p ∈ ar ++ [(ord.getD i 0, ord.getD j 0)], Fit ord B p := by
  intro p hp
  rcases List.mem_append.mp hp with q | q
  · obtain ⟨i', j', h1, h2⟩ := ha p q; exact ⟨i', j', hB _ _ h1, h2⟩
  · exact ⟨i, j, hn, hij, hj, List.mem_singleton.mp q⟩
theorem fut_snoc {ord : List Int} {A B : Nat → Nat → Prop} {ar : List (Int × Int)} (ha : ∀ p ∈ ar, Fut ord A p) {i j : Nat} (hB : ∀ i' j', A i' j' → B i' j') (hn : B i j) (hij : i < j) (hj : j < ord.length) : ∀ p ∈ ar ++ [(min (ord.getD i 0) (ord.getD j 0), max (ord.getD i 0) (ord.getD j 0))], Fut ord B p := by
  intro p hp
  rcases List.mem_append.mp hp with q | q
  · obtain ⟨i', j', h1, h2⟩ := ha p q; exact ⟨i', j', hB _ _ h1, h2⟩
  · exact ⟨i, j, hn, hij, hj, List.mem_singleton.mp q⟩
theorem fit_mono {ord : List Int} {A B : Nat → Nat → Prop} {ar : List (Int × Int)} (hB : ∀ i' j', A i' j' → B i' j') (ha : ∀ p ∈ ar, Fit ord A p) : ∀ p ∈ ar, Fit ord B p := fun p hp => by
  obtain ⟨i', j', h1, h2⟩ := ha p hp; exact ⟨i', j', hB _ _ h1, h2⟩
theorem fut_mono {ord : List Int} {A B : Nat → Nat → Prop} {ar : List (Int × Int)} (hB : ∀ i' j', A i' j' → B i' j') (ha : ∀ p ∈ ar, Fut ord A p) : ∀ p ∈ ar, Fut ord B p := fun p hp => by
  obtain ⟨i', j', h1, h2⟩ := ha p hp; exact ⟨i', j', hB _ _ h1, h2⟩
def WI (ord : List Int) (A : Nat → Nat → Prop) (ar ti : List (Int × Int)) : Prop := ar.Nodup ∧ ti.Nodup ∧ (∀ p ∈ ar, Fit ord A p) ∧ (∀ p ∈ ti, Fut ord A p) ∧ ti.length ≤ 6
theorem perm_at {ord : List Int} {m : Int} (hp : ord.Perm (rg 0 m)) {i : Nat} (hi : i < ord.length) : 0 ≤ ord.getD i 0 ∧ ord.getD i 0 < m := by
  have : ord.getD i 0 ∈ ord := by
    rw [List.getD_eq_getElem?_getD, List.getElem?_eq_getElem hi]
    exact List.getElem_mem hi
  exact rg_mem.mp (hp.mem_iff.mp this)
theorem web_right {ord : List Int} {m : Int} {ar ti : List (Int × Int)} (hm0 : 1 ≤ m) (hm : m ≤ 6) (hp : ord.Perm (rg 0 m)) (hw : WI ord (fun _ _ => True) ar ti) (hl : ar.length ≤ 36) : WebOk m (sortD ar) (sortD ti) := by
  obtain ⟨w1, w2, w3, w4, w5⟩ := hw
  have nd : ord.Nodup := hp.nodup_iff.mpr ((rg_asc 0 m).imp fun h => by omega)
  refine ⟨hm0, hm, by rw [sortD_len]; omega, ?_, sortD_lt w1, ?_, by rw [sortD_len]; exact w5, ?_, sortD_lt w2⟩
  · intro p h
    obtain ⟨i, j, _, h1, h2, rfl⟩ := w3 p (sortD_mem.mp h)
    refine ⟨perm_at hp (by omega), perm_at hp h2, fun e => ?_⟩
    have := getD_inj nd (by omega) h2 e
    omega
  · refine ordL_full nd (fun x hx => hp.mem_iff.mpr hx) ?_ _ _ (by simp) .nil nofun
    intro p h
    obtain ⟨i, j, _, h1, h2, rfl⟩ := w3 p (sortD_mem.mp h)
    exact ⟨rg_mem.mpr (perm_at hp (by omega)), i, j, h1, by simp [show i < ord.length by omega], by simp [h2]⟩
  · intro p h
    obtain ⟨i, j, _, h1, h2, rfl⟩ := w4 p (sortD_mem.mp h)
    have q1 := perm_at hp (i := i) (by omega)
    have q2 := perm_at hp h2
    have : ord.getD i 0 ≠ ord.getD j 0 := fun e => by
      have := getD_inj nd (by omega) h2 e
      omega
    dsimp only
    omega
end LW
end
section
set_option maxHeartbeats 1000000
namespace LW
open PySem RF
open RF.Rp (rep)
def tri : Nat → Nat
  | 0 => 0
  | t + 1 => tri t + 2 * t
def webE (ds : List Int) (m th td : Int) (ord : List Int) (ar ti : List (Int × Int)) (a b : Slot) : RF.Env := [.olst (ds.map rep), .val (.int m), .val (.int th), .val (.int td), .olst (ord.map rep), .olst (ar.map rep), .olst (ti.map rep), a, b]
theorem web_for1 {n k : Nat} {ds ord : List Int} {ar ti : List (Int × Int)} {m th td : Int} {i : Nat} {b : Slot} (hd : nk (k + 2 * (m.toNat - 1 - i)) ds) (hm : m ≤ 6) (hi : (i : Int) < m) (ho : ord.length = m.toNat) (nd : ord.Nodup) (hw : WI ord (fun i' _ => i' < i) ar ti) (hl : ar.length ≤ 6 * i) : Nx (fun e => ∃ (ds' : List Int) (ar' ti' : List (Int × Int)) (a b : Slot), e = webE ds' m th td ord ar' ti' a b ∧ nk k ds' ∧ WI ord (fun i' _ => i' < i + 1) ar' ti' ∧ ar'.length ≤ 6 * (i + 1)) (evS (G (n + 1)) _law_web_for1 (webE ds m th td ord ar ti (.val (.int i)) b)) := by
  unfold _law_web_for1
  have hit : evI (G (n + 1)) (T.irng (T.cons (T.op2 P2.add (T.plc 7 []) (T.con (PV.int 1))) (T.cons (T.plc 1 []) T.nil))) (webE ds m th td ord ar ti (.val (.int i)) b) = .ok (.sl (.val .non), (rg ((i : Int) + 1) m).map rep) (webE ds m th td ord ar ti (.val (.int i)) b) := by
    unfold webE
    simp (disch := first | omega | assumption | (unfold RF.sm; omega) | (unfold RF.sm64; omega) | (simp only [List.length_append, List.length_cons, List.length_nil, List.length_map]; omega) | (simp; omega) | simp)
  refine for_P _ _ hit (fun pre post e => ∃ (ds' : List Int) (ar' ti' : List (Int × Int)) (b : Slot), e = webE ds' m th td ord ar' ti' (.val (.int i)) b ∧ nk (k + 2 * post.length) ds' ∧ WI ord (fun i' j' => i' < i ∨ (i' = i ∧ j' < i + 1 + pre.length)) ar' ti' ∧ ar'.length ≤ 6 * i + pre.length) ?_ ?_ ?_
  · refine ⟨ds, ar, ti, b, rfl, hd.mono (by rw [rg_len]; omega), ⟨hw.1, hw.2.1, ?_, ?_, hw.2.2.2.2⟩, by simpa using hl⟩
    · exact fit_mono (fun _ _ h => Or.inl h) hw.2.2.1
    · exact fut_mono (fun _ _ h => Or.inl h) hw.2.2.2.1
  · rintro pre x post e he ⟨ds', ar', ti', b, rfl, h1, ⟨w1, w2, w3, w4, w5⟩, h3⟩
    obtain ⟨hx, hp, hq⟩ := rg_split he
    obtain ⟨j, rfl, hj⟩ : ∃ j : Nat, x = (j : Int) ∧ j = i + 1 + pre.length := ⟨i + 1 + pre.length, by omega, rfl⟩
    have l1 : i < ord.length := by omega
    have l2 : j < ord.length := by omega
    have hA : ¬ (i < i ∨ (i = i ∧ j < i + 1 + pre.length)) := by omega
    have hB : ∀ i' j', (i' < i ∨ (i' = i ∧ j' < i + 1 + pre.length)) → (i' < i ∨ (i' = i ∧ j' < i + 1 + (pre ++ [(j : Int)]).length)) := by intro i' j' h; simp; omega
    have hC : i < i ∨ (i = i ∧ j < i + 1 + (pre ++ [(j : Int)]).length) := by simp; omega
    have g1 : ord[i]? = some (ord.getD i 0) := by simp [l1]
    have g2 : ord[j]? = some (ord.getD j 0) := by simp [l2]
    obtain ⟨v1, ds1, t1, t2, t3, t4⟩ := take_k (n := n) (k := k + 2 * post.length + 1) (h1.mono (by simp; omega)) (m := 8) (by omega)
    obtain ⟨v2, ds2, u1, u2, u3, u4⟩ := take_k (n := n) (k := k + 2 * post.length) t4 (m := 8) (by omega)
    have q1 := fit_new nd w3 w1 hA (by omega) l2
    have q2 := fut_new nd w4 w2 hA (by omega) l2
    have q3 := fit_snoc w3 hB hC (by omega) l2
    have q4 := fut_snoc w4 hB hC (by omega) l2
    by_cases c1 : v1 < th
    · by_cases c2 : v2 < td ∧ ti'.length < 6
      · have c3 : (ti'.length : Int) < 6 := by omega
        exact turn_go (webE ds2 m th td ord (ar' ++ [_]) (ti' ++ [_]) (.val (.int i)) (.val (.int j))) (by unfold webE; simp (disch := first | omega | assumption | (unfold RF.sm; omega) | (unfold RF.sm64; omega) | (simp only [List.length_append, List.length_cons, List.length_nil, List.length_map]; omega) | (simp; omega) | simp) [t1, u1, c1, c2.1, c3, g1, g2]; first | done | rfl) rfl ⟨ds2, _, _, _, rfl, u4, ⟨q1, q2, q3, q4, by simp; omega⟩, by simp; omega⟩
      · have c3 : (decide (v2 < td) && decide ((ti'.length : Int) < 6)) = false := by
          rw [Bool.and_eq_false_iff]; simp; omega
        exact turn_go (webE ds2 m th td ord (ar' ++ [_]) ti' (.val (.int i)) (.val (.int j))) (by unfold webE; simp (disch := first | omega | assumption | (unfold RF.sm; omega) | (unfold RF.sm64; omega) | (simp only [List.length_append, List.length_cons, List.length_nil, List.length_map]; omega) | (simp; omega) | simp) [t1, u1, c1, c3, g1, g2]; first | done | rfl) rfl ⟨ds2, _, _, _, rfl, u4, ⟨q1, w2, q3, fut_mono hB w4, w5⟩, by simp; omega⟩
    · by_cases c2 : v2 < td ∧ ti'.length < 6
      · have c3 : (ti'.length : Int) < 6 := by omega
        exact turn_go (webE ds2 m th td ord ar' (ti' ++ [_]) (.val (.int i)) (.val (.int j))) (by unfold webE; simp (disch := first | omega | assumption | (unfold RF.sm; omega) | (unfold RF.sm64; omega) | (simp only [List.length_append, List.length_cons, List.length_nil, List.length_map]; omega) | (simp; omega) | simp) [t1, u1, c1, c2.1, c3, g1, g2]; first | done | rfl) rfl ⟨ds2, _, _, _, rfl, u4, ⟨w1, q2, fit_mono hB w3, q4, by simp; omega⟩, by simp; omega⟩
      · have c3 : (decide (v2 < td) && decide ((ti'.length : Int) < 6)) = false := by
          rw [Bool.and_eq_false_iff]; simp; omega
        exact turn_go (webE ds2 m th td ord ar' ti' (.val (.int i)) (.val (.int j))) (by unfold webE; simp (disch := first | omega | assumption | (unfold RF.sm; omega) | (unfold RF.sm64; omega) | (simp only [List.length_append, List.length_cons, List.length_nil, List.length_map]; omega) | (simp; omega) | simp) [t1, u1, c1, c3, g1, g2]; first | done | rfl) rfl ⟨ds2, _, _, _, rfl, u4, ⟨w1, w2, fit_mono hB w3, fut_mono hB w4, w5⟩, by simp; omega⟩
  · rintro e ⟨ds', ar', ti', b, rfl, h1, ⟨w1, w2, w3, w4, w5⟩, h3⟩
    rw [rg_len] at h3
    exact .mk _ ⟨ds', ar', ti', _, b, rfl, h1, ⟨w1, w2, fit_mono (fun _ _ h => by omega) w3, fut_mono (fun _ _ h => by omega) w4, w5⟩, by omega⟩
end LW
end
section
set_option maxHeartbeats 1000000
namespace LW
open PySem RF
open RF.Rp (rep)
theorem web_for0 {n k : Nat} {ds ord : List Int} {m th td : Int} (hd : nk (k + tri m.toNat) ds) (hm0 : 0 ≤ m) (hm : m ≤ 6) (ho : ord.length = m.toNat) (nd : ord.Nodup) : Nx (fun e => ∃ (ds' : List Int) (ar' ti' : List (Int × Int)) (a b : Slot), e = webE ds' m th td ord ar' ti' a b ∧ nk k ds' ∧ WI ord (fun _ _ => True) ar' ti' ∧ ar'.length ≤ 36) (evS (G (n + 1)) _law_web_for0 (webE ds m th td ord [] [] .dead .dead)) := by
  unfold _law_web_for0
  have hit : evI (G (n + 1)) (T.irng (T.cons (T.plc 1 []) T.nil)) (webE ds m th td ord [] [] .dead .dead) = .ok (.sl (.val .non), (rg 0 m).map rep) (webE ds m th td ord [] [] .dead .dead) := by
    unfold webE
    simp (disch := first | omega | assumption | (unfold RF.sm; omega) | (unfold RF.sm64; omega) | (simp only [List.length_append, List.length_cons, List.length_nil, List.length_map]; omega) | (simp; omega) | simp)
  refine for_P _ _ hit (fun pre post e => ∃ (ds' : List Int) (ar' ti' : List (Int × Int)) (a b : Slot), e = webE ds' m th td ord ar' ti' a b ∧ nk (k + tri post.length) ds' ∧ WI ord (fun i' _ => i' < pre.length) ar' ti' ∧ ar'.length ≤ 6 * pre.length) ⟨ds, [], [], .dead, .dead, rfl, by rw [rg_len]; simpa using hd, ⟨.nil, .nil, nofun, nofun, by simp⟩, by simp⟩ ?_ ?_
  · rintro pre x post e he ⟨ds', ar', ti', a, b, rfl, h1, h2, h3⟩
    obtain ⟨hx, hp, hq⟩ := rg_split he
    have hx' : x = (pre.length : Int) := by omega
    subst hx'
    have e1 : asgT (T.tnm 7) (rep (pre.length : Int)) (webE ds' m th td ord ar' ti' a b) = some (webE ds' m th td ord ar' ti' (.val (.int pre.length)) b) := by
      unfold webE; simp
    rw [e1, asgB_some]
    obtain ⟨e2, h4, ds2, ar2, ti2, a2, b2, rfl, h5, h6, h7⟩ := nx_elim (web_for1 (n := n) (k := k + tri post.length) (th := th) (td := td) (i := pre.length) (b := b) (h1.mono (by rw [List.length_cons, tri]; omega)) hm (by omega) ho nd h2 h3)
    exact turn_go _ h4 rfl ⟨ds2, ar2, ti2, a2, b2, rfl, h5, by simpa using h6, by simpa using h7⟩
  · rintro e ⟨ds', ar', ti', a, b, rfl, h1, h2, h3⟩
    rw [rg_len] at h3
    exact .mk _ ⟨ds', ar', ti', a, b, rfl, h1, ⟨h2.1, h2.2.1, fit_mono (fun _ _ _ => trivial) h2.2.2.1, fut_mono (fun _ _ _ => trivial) h2.2.2.2.1, h2.2.2.2.2⟩, by omega⟩
theorem web_k {n k : Nat} {ds : List Int} {m th td : Int} (hd : nk (k + tri m.toNat + m.toNat) ds) (hm0 : 1 ≤ m) (hm : m ≤ 6) : ∃ (ds' : List Int) (ar ti : List (Int × Int)), sem X.t (n + 3) 34 [.olst (ds.map rep), .val (.int m), .val (.int th), .val (.int td)] = .ok (.val (.tup [.int m, .tup (ar.map rep), .tup (ti.map rep)])) [.olst (ds'.map rep), .val (.int m), .val (.int th), .val (.int td)] ∧ nk k ds' ∧ WebOk m ar ti := by
  suffices kk : Rt (fun s bs => ∃ (ds' : List Int) (ar ti : List (Int × Int)), s = .val (.tup [.int m, .tup (ar.map rep), .tup (ti.map rep)]) ∧ bs = [.olst (ds'.map rep), .val (.int m), .val (.int th), .val (.int td)] ∧ nk k ds' ∧ WebOk m ar ti) (sem X.t (n + 3) 34 [.olst (ds.map rep), .val (.int m), .val (.int th), .val (.int td)]) by
    obtain ⟨s, bs, h, ds', ar, ti, rfl, rfl, h2⟩ := rt_elim kk
    exact ⟨ds', ar, ti, h, h2⟩
  rw [run__law_web]
  obtain ⟨ds1, ord, h1, h2, h3⟩ := order_k (n := n) (m := m) hd (by omega) (by omega)
  have hl := h3.length_eq
  rw [rg_len] at hl
  refine seq_step _ (by simp (disch := first | omega | assumption | (unfold RF.sm; omega) | (unfold RF.sm64; omega) | (simp only [List.length_append, List.length_cons, List.length_nil, List.length_map]; omega) | (simp; omega) | simp) [h1]; rfl) ?_
  refine seq_step _ (by simp (disch := first | omega | assumption | (unfold RF.sm; omega) | (unfold RF.sm64; omega) | (simp only [List.length_append, List.length_cons, List.length_nil, List.length_map]; omega) | (simp; omega) | simp); rfl) ?_
  refine seq_step (webE ds1 m th td ord [] [] .dead .dead) (by unfold webE; simp (disch := first | omega | assumption | (unfold RF.sm; omega) | (unfold RF.sm64; omega) | (simp only [List.length_append, List.length_cons, List.length_nil, List.length_map]; omega) | (simp; omega) | simp)) ?_
  refine nx_seq (web_for0 h2 (by omega) hm (by omega) (h3.nodup_iff.mpr ((rg_asc 0 m).imp fun h => by omega))) ?_
  rintro _ ⟨ds2, ar, ti, a, b, rfl, h4, h5, h6⟩
  refine rt_of _ _ ?_ ⟨ds2, sortD ar, sortD ti, rfl, rfl, h4, web_right hm0 hm h3 h5 h6⟩
  unfold webE
  simp (disch := first | omega | assumption | (unfold RF.sm; omega) | (unfold RF.sm64; omega) | (simp only [List.length_append, List.length_cons, List.length_nil, List.length_map]; omega) | (simp; omega) | simp)
end LW
end
section
set_option maxHeartbeats 1000000
namespace LW
open PySem RF
open RF.Rp (rep)
theorem ordL_rank {m : Int} {ar : List (Int × Int)} {r : Int → Nat} (ha : ∀ p ∈ ar, p.1 ∈ rg 0 m ∧ r p.1 < r p.2) : ∀ (k : Nat) (out : List Int), out.length + k = m.toNat → out.Nodup → (∀ x ∈ out, x ∈ rg 0 m) → (ordL m ar k out).length = m.toNat
  | 0, out, h, _, _ => by rw [ordL]; omega
  | k + 1, out, h, nd, sub => by
    have key : ∀ i : Nat, ∀ x, r x = i → x ∈ rg 0 m → x ∉ out → ∃ y, y ∈ rdy m ar out := by
      intro i
      induction i using Nat.strongRecOn with
      | _ i ih =>
        intro x hx hr hno
        by_cases c : ∀ p ∈ ar, p.2 = x → p.1 ∈ out
        · exact ⟨x, rdy_mem.mpr ⟨rg_mem.mp hr, hno, c⟩⟩
        · simp only [Classical.not_forall] at c
          obtain ⟨p, hp, he, hpo⟩ := c
          obtain ⟨h1, h2⟩ := ha p hp
          exact ih (r p.1) (by rw [← hx, ← he]; exact h2) p.1 rfl h1 hpo
    have ex : ∃ x, x ∈ rg 0 m ∧ x ∉ out := by
      apply Classical.byContradiction
      intro c
      have : ∀ x ∈ rg 0 m, x ∈ out := fun x hx => Classical.byContradiction fun q => c ⟨x, hx, q⟩
      have := nodup_len ((rg_asc 0 m).imp fun h => by omega) this
      rw [rg_len] at this
      omega
    obtain ⟨x, hx, hno⟩ := ex
    obtain ⟨y, hy⟩ := key _ x rfl hx hno
    rw [ordL]
    cases z : rdy m ar out with
    | nil => rw [z] at hy; cases hy
    | cons a q =>
      dsimp only
      have hq := rdy_mem.mp (z ▸ List.mem_cons_self : a ∈ rdy m ar out)
      refine ordL_rank ha k _ (by simp; omega) ?_ ?_
      · rw [List.nodup_append]
        exact ⟨nd, by simp, fun u hu v hv e => hq.2.1 (by simp at hv; rw [← hv, ← e]; exact hu)⟩
      · intro u hu
        rcases List.mem_append.mp hu with q | q
        · exact sub u q
        · rw [List.mem_singleton.mp q, rg_mem]; exact hq.1
def Inn (ar : List (Int × Int)) (out : List Int) : Prop := ∀ p ∈ ar, p.2 ∈ out → p.1 ∈ out ∧ out.idxOf p.1 < out.idxOf p.2
theorem ordL_inn {m : Int} {ar : List (Int × Int)} : ∀ (k : Nat) (out : List Int), out.Nodup → (∀ x ∈ out, x ∈ rg 0 m) → Inn ar out → (ordL m ar k out).Nodup ∧ (∀ x ∈ ordL m ar k out, x ∈ rg 0 m) ∧ Inn ar (ordL m ar k out)
  | 0, out, h1, h2, h3 => ⟨h1, h2, h3⟩
  | k + 1, out, h1, h2, h3 => by
    rw [ordL]
    cases z : rdy m ar out with
    | nil => exact ⟨h1, h2, h3⟩
    | cons a q =>
      have hq := rdy_mem.mp (z ▸ List.mem_cons_self : a ∈ rdy m ar out)
      refine ordL_inn k _ ?_ ?_ ?_
      · rw [List.nodup_append]
        exact ⟨h1, by simp, fun u hu v hv e => hq.2.1 (by simp at hv; rw [← hv, ← e]; exact hu)⟩
      · intro u hu
        rcases List.mem_append.mp hu with q | q
        · exact h2 u q
        · rw [List.mem_singleton.mp q, rg_mem]; exact hq.1
      · intro p hp hin
        rcases List.mem_append.mp hin with q | q
        · obtain ⟨a1, a2⟩ := h3 p hp q
          refine ⟨List.mem_append_left _ a1, ?_⟩
          rw [List.idxOf_append, if_pos a1, List.idxOf_append, if_pos q]
          exact a2
        · have e := List.mem_singleton.mp q
          have a1 := hq.2.2 p hp e
          refine ⟨List.mem_append_left _ a1, ?_⟩
          rw [List.idxOf_append, if_pos a1, List.idxOf_append, if_neg (by rw [e]; exact hq.2.1)]
          have := List.idxOf_lt_length_iff.mpr a1
          omega
theorem WebOk.rank {m : Int} {ar ti : List (Int × Int)} (h : WebOk m ar ti) : ∃ r : Int → Nat, ∀ p ∈ ar, r p.1 < r p.2 := by
  obtain ⟨h1, h2, h3⟩ := ordL_inn (m := m) (ar := ar) m.toNat [] .nil nofun nofun
  refine ⟨fun x => (ordL m ar m.toNat []).idxOf x, fun p hp => ?_⟩
  have full : p.2 ∈ ordL m ar m.toNat [] := by
    apply Classical.byContradiction
    intro c
    have hb := (h.aa p hp).2.1
    have nd : (p.2 :: ordL m ar m.toNat []).Nodup := List.nodup_cons.mpr ⟨c, h1⟩
    have := nodup_len nd (ys := rg 0 m) (fun x hx => by
      rcases List.mem_cons.mp hx with rfl | hx
      · exact rg_mem.mpr hb
      · exact h2 x hx)
    rw [List.length_cons, h.ao, rg_len] at this
    omega
  exact (h3 p hp full).2
theorem pairs_few {m : Int} {ar : List (Int × Int)} (h0 : 0 ≤ m) (hm : m ≤ 6) (ha : ∀ p ∈ ar, (0 ≤ p.1 ∧ p.1 < m) ∧ (0 ≤ p.2 ∧ p.2 < m)) (nd : ar.Nodup) : ar.length ≤ 36 := by
  have := nodup_len nd (ys := (rg 0 6).flatMap fun a => (rg 0 6).map fun b => (a, b)) (fun p hp => by
    obtain ⟨h1, h2⟩ := ha p hp
    rw [List.mem_flatMap]
    exact ⟨p.1, rg_mem.mpr (by omega), List.mem_map.mpr ⟨p.2, rg_mem.mpr (by omega), rfl⟩⟩)
  refine Nat.le_trans this (by decide)
theorem WebOk.nd {m : Int} {ar ti : List (Int × Int)} (h : WebOk m ar ti) : ar.Nodup := asc_nodup h.ap
theorem WebOk.l36 {m : Int} {ar ti : List (Int × Int)} (h : WebOk m ar ti) : ar.length ≤ 36 := by
  have := h.m1
  exact pairs_few (by omega) h.m6 (fun p hp => ⟨(h.aa p hp).1, (h.aa p hp).2.1⟩) h.nd
theorem WebOk.of_rank {m : Int} {ar ti : List (Int × Int)} (m1 : 1 ≤ m) (m6 : m ≤ 6) (aa : ∀ p ∈ ar, (0 ≤ p.1 ∧ p.1 < m) ∧ (0 ≤ p.2 ∧ p.2 < m)) (ap : ar.Pairwise Od.lt) {r : Int → Nat} (hr : ∀ p ∈ ar, r p.1 < r p.2) (lt : ti.length ≤ 6) (ta : ∀ p ∈ ti, 0 ≤ p.1 ∧ p.1 < p.2 ∧ p.2 < m) (tp : ti.Pairwise Od.lt) : WebOk m ar ti := by
  have l36 := pairs_few (by omega) m6 aa (asc_nodup ap)
  refine ⟨m1, m6, by omega, fun p hp => ⟨(aa p hp).1, (aa p hp).2, fun e => ?_⟩, ap, ?_, lt, ta, tp⟩
  · have := hr p hp
    rw [e] at this
    omega
  · exact ordL_rank (fun p hp => ⟨rg_mem.mpr (aa p hp).1, hr p hp⟩) _ _ (by simp) .nil nofun
theorem WebOk.noties {m : Int} {ar ti : List (Int × Int)} (h : WebOk m ar ti) : WebOk m ar [] := ⟨h.m1, h.m6, h.la, h.aa, h.ap, h.ao, by simp, nofun, .nil⟩
end LW
end
section
set_option maxHeartbeats 1000000
namespace LW
open PySem RF
open RF.Rp (rep)
def webT (m : Int) (ar ti : List (Int × Int)) : PV := .tup [.int m, .tup (ar.map rep), .tup (ti.map rep)]
@[simp] theorem webT_idx0 (m : Int) (ar ti : List (Int × Int)) : op2 .idx (webT m ar ti) (.int 0) = some (.val (.int m)) := by unfold webT; simp
@[simp] theorem webT_idx1 (m : Int) (ar ti : List (Int × Int)) : op2 .idx (webT m ar ti) (.int 1) = some (.val (.tup (ar.map rep))) := by unfold webT; simp
@[simp] theorem webT_idx2 (m : Int) (ar ti : List (Int × Int)) : op2 .idx (webT m ar ti) (.int 2) = some (.val (.tup (ti.map rep))) := by unfold webT; simp
theorem WebOk.ip {m : Int} {ar ti : List (Int × Int)} (h : WebOk m ar ti) : 1 ≤ m ∧ m ≤ 6 := ⟨h.m1, h.m6⟩
structure LotOk (m : Int) (xs : List Int) : Prop where
  bd : ∀ v ∈ xs, 0 ≤ v ∧ v < m
  asc : xs.Pairwise (· < ·)
theorem LotOk.nd {m : Int} {xs : List Int} (h : LotOk m xs) : xs.Nodup := h.asc.imp fun h => by omega
theorem LotOk.ext {m m' : Int} {xs ys : List Int} (h : LotOk m xs) (h' : LotOk m' ys) (e : ∀ v, v ∈ xs ↔ v ∈ ys) : xs = ys := asc_ext (α := Int) h.asc h'.asc e
section
variable {n : Nat} {m : Int}
theorem is_lot_lc {xs : List Int} (h : LotOk m xs) (hl : xs.length ≤ 1000) : evE (G (n + 2)) is_lot_lc0 [.val (.tup (xs.map rep)), .val (.int m), .dead] = .ok (.sl (.olst (xs.map fun _ => .bl true))) [.val (.tup (xs.map rep)), .val (.int m), .dead] := by
  unfold is_lot_lc0
  refine Eq.trans (lc_pure (G _) (v := .pl 0 []) (f := rep) (p := fun _ => true) (h := fun _ : Int => .bl true) (xs := xs) ?_ ?_ ?_ ?_) (by simp)
  · simp (disch := first | omega | assumption | (unfold RF.sm; omega) | (unfold RF.sm64; omega) | (simp only [List.length_append, List.length_cons, List.length_nil, List.length_map]; omega) | (simp; omega) | simp)
  · rfl
  · omega
  · intro v hv
    have := h.bd v hv
    simp (disch := first | omega | assumption | (unfold RF.sm; omega) | (unfold RF.sm64; omega) | (simp only [List.length_append, List.length_cons, List.length_nil, List.length_map]; omega) | (simp; omega) | simp) [lcTurn, wipeE, intP, this.1, this.2]
theorem is_lot_ok {xs : List Int} (h : LotOk m xs) (hl : xs.length ≤ 1000) : sem X.t (n + 3) 5 [.val (.tup (xs.map rep)), .val (.int m)] = .ok (.val (.bl true)) [.val (.tup (xs.map rep)), .val (.int m)] := by
  rw [run_is_lot]
  have e1 := is_lot_lc (n := n) h hl
  have e2 : decide (xs.Pairwise Od.lt) = true := decide_eq_true h.asc
  have e3 : blsOf (xs.map fun _ => PV.bl true) = some (xs.map fun _ => true) := blsOf_map xs fun _ => true
  have e4 : (xs.all fun _ => true) = true := List.all_eq_true.mpr fun _ _ => rfl
  simp (disch := first | omega | assumption | (unfold RF.sm; omega) | (unfold RF.sm64; omega) | (simp only [List.length_append, List.length_cons, List.length_nil, List.length_map]; omega) | (simp; omega) | simp) [e1, e2, e3, e4]
end
end LW
end
section
set_option maxHeartbeats 1000000
namespace LW
open PySem RF
open RF.Rp (rep)
inductive Cl (P : List (Int × Int)) (lot ins : List Int) : Int → Prop
  | base {v : Int} : v ∈ lot → Cl P lot ins v
  | step {u b : Int} : Cl P lot ins u → (u, b) ∈ P → b ∈ ins → Cl P lot ins b
def scan1 (ins : List Int) (out : List Int) (p : Int × Int) : List Int := if p.1 ∈ out ∧ p.2 ∈ ins ∧ p.2 ∉ out then out ++ [p.2] else out
def scanL (P : List (Int × Int)) (ins out : List Int) : List Int := P.foldl (scan1 ins) out
def itS (P : List (Int × Int)) (ins out : List Int) : Nat → List Int
  | 0 => out
  | k + 1 => scanL P ins (itS P ins out k)
section
variable {P P0 : List (Int × Int)} {lot ins out : List Int} {m : Int}
theorem few_m {xs : List Int} (nd : xs.Nodup) (hb : ∀ v ∈ xs, 0 ≤ v ∧ v < m) : xs.length ≤ m.toNat := by
  have := nodup_len (ys := rg 0 m) nd fun v hv => rg_mem.mpr (hb v hv)
  rw [rg_len] at this
  omega
theorem Cl.bd (hl : ∀ v ∈ lot, 0 ≤ v ∧ v < m) (hi : ∀ v ∈ ins, 0 ≤ v ∧ v < m) {v : Int} (h : Cl P lot ins v) : 0 ≤ v ∧ v < m := by
  cases h with
  | base h => exact hl _ h
  | step _ _ h => exact hi _ h
theorem scan1_nd {p : Int × Int} (h : out.Nodup) : (scan1 ins out p).Nodup := by
  unfold scan1
  split
  · rename_i c
    rw [List.nodup_append]
    exact ⟨h, by simp, fun a ha b hb e => c.2.2 (by rw [← List.mem_singleton.mp hb, ← e]; exact ha)⟩
  · exact h
theorem scan1_cl {p : Int × Int} (h : ∀ v ∈ out, Cl P lot ins v) (hp : p ∈ P) : ∀ v ∈ scan1 ins out p, Cl P lot ins v := by
  unfold scan1
  split
  · rename_i c
    intro v hv
    rcases List.mem_append.mp hv with q | q
    · exact h v q
    · rw [List.mem_singleton.mp q]
      exact .step (h _ c.1) (show (p.1, p.2) ∈ P from hp) c.2.1
  · exact h
theorem scan1_le {p : Int × Int} : (scan1 ins out p).length ≤ out.length + 1 := by
  unfold scan1
  split <;> simp
theorem scan1_pre {p : Int × Int} : out <+: scan1 ins out p := by
  unfold scan1
  split
  · exact List.prefix_append _ _
  · exact List.prefix_refl _
theorem scanL_all : ∀ (P : List (Int × Int)) (out : List Int), out.Nodup → (∀ v ∈ out, Cl P0 lot ins v) → (∀ p ∈ P, p ∈ P0) →
    out <+: scanL P ins out ∧ (scanL P ins out).Nodup ∧ (∀ v ∈ scanL P ins out, Cl P0 lot ins v) ∧ (out.length < (scanL P ins out).length ∨ scanL P ins out = out ∧ ∀ p ∈ P, p.1 ∈ out → p.2 ∈ ins → p.2 ∈ out)
  | [], out, nd, hc, _ => ⟨List.prefix_refl _, nd, hc, .inr ⟨rfl, nofun⟩⟩
  | p :: P, out, nd, hc, hp => by
    have e : scanL (p :: P) ins out = scanL P ins (scan1 ins out p) := rfl
    rw [e]
    obtain ⟨h1, h2, h3, h4⟩ := scanL_all P (scan1 ins out p) (scan1_nd nd) (scan1_cl hc (hp p List.mem_cons_self)) fun q hq => hp q (List.mem_cons_of_mem _ hq)
    refine ⟨scan1_pre.trans h1, h2, h3, ?_⟩
    by_cases c : p.1 ∈ out ∧ p.2 ∈ ins ∧ p.2 ∉ out
    · left
      have e2 : scan1 ins out p = out ++ [p.2] := by unfold scan1; rw [if_pos c]
      have := h1.length_le
      rw [e2, List.length_append, List.length_singleton] at this
      rw [e2]
      omega
    · have e2 : scan1 ins out p = out := by unfold scan1; rw [if_neg c]
      rw [e2] at h4 ⊢
      rcases h4 with h4 | ⟨h4, h5⟩
      · exact .inl h4
      · refine .inr ⟨h4, fun q hq k1 k2 => ?_⟩
        rcases List.mem_cons.mp hq with rfl | hq
        · by_cases z : q.2 ∈ out
          · exact z
          · exact absurd ⟨k1, k2, z⟩ c
        · exact h5 q hq k1 k2
def Clsd (P : List (Int × Int)) (ins out : List Int) : Prop := ∀ p ∈ P, p.1 ∈ out → p.2 ∈ ins → p.2 ∈ out
theorem Clsd.all (h : Clsd P ins out) (hl : ∀ v ∈ lot, v ∈ out) {v : Int} (c : Cl P lot ins v) : v ∈ out := by
  induction c with
  | base h => exact hl _ h
  | step _ hp hi ih => exact h _ hp ih hi
theorem itS_all (nd : lot.Nodup) : ∀ k, lot <+: itS P ins lot k ∧ (itS P ins lot k).Nodup ∧ (∀ v ∈ itS P ins lot k, Cl P lot ins v) ∧ (Clsd P ins (itS P ins lot k) ∨ k ≤ (itS P ins lot k).length)
  | 0 => ⟨List.prefix_refl _, nd, fun v hv => .base hv, .inr (Nat.zero_le _)⟩
  | k + 1 => by
    obtain ⟨h1, h2, h3, h4⟩ := itS_all nd k
    obtain ⟨k1, k2, k3, k4⟩ := scanL_all (P0 := P) (lot := lot) (ins := ins) P (itS P ins lot k) h2 h3 fun _ h => h
    have e : itS P ins lot (k + 1) = scanL P ins (itS P ins lot k) := rfl
    rw [e]
    refine ⟨h1.trans k1, k2, k3, ?_⟩
    rcases k4 with k4 | ⟨k4, k5⟩
    · rcases h4 with h4 | h4
      · have := nodup_len k2 fun v hv => h4.all (fun u hu => h1.subset hu) (k3 v hv)
        omega
      · exact .inr (by omega)
    · rw [k4]
      exact .inl k5
theorem itS_mem (nd : lot.Nodup) (hl : ∀ v ∈ lot, 0 ≤ v ∧ v < m) (hi : ∀ v ∈ ins, 0 ≤ v ∧ v < m) (v : Int) : v ∈ itS P ins lot m.toNat ↔ Cl P lot ins v := by
  obtain ⟨h1, h2, h3, h4⟩ := itS_all (P := P) (ins := ins) nd m.toNat
  refine ⟨h3 v, fun h => ?_⟩
  rcases h4 with h4 | h4
  · exact h4.all (fun u hu => h1.subset hu) h
  · -- all are in
    by_cases z : v ∈ itS P ins lot m.toNat
    · exact z
    · exfalso
      have hv := h.bd hl hi
      have nd2 : (v :: itS P ins lot m.toNat).Nodup := List.nodup_cons.mpr ⟨z, h2⟩
      have := few_m (m := m) nd2 fun u hu => by
        rcases List.mem_cons.mp hu with rfl | hu
        · exact hv
        · exact (h3 u hu).bd hl hi
      rw [List.length_cons] at this
      omega
end
end LW
end
section
set_option maxHeartbeats 1000000
namespace LW
open PySem RF
open RF.Rp (rep)
def dU (K : List Int) : List (PV × PV) := dmap (fun _ : Unit => PV.bl true) (K.map fun x => (x, ()))
@[simp] theorem dKeyOk_u (K : List Int) (b : Int) : dKeyOk (dU K) (.int b) = true := dKeyOk_map _ _ b
@[simp] theorem dGet_u (K : List Int) (b : Int) : (dGet (dU K) (.int b)).isSome = decide (b ∈ K) := by
  have := dGet_some (fun _ : Unit => PV.bl true) (K.map fun x => (x, ())) b
  rw [List.map_map] at this
  have e : (Prod.fst ∘ fun x : Int => (x, ())) = id := rfl
  rw [e, List.map_id] at this
  exact this
theorem dPut_u (K : List Int) (b : Int) (h : b ∉ K) : dPut (dU K) (.int b) (.bl true) = dU (K ++ [b]) := by
  have := dPut_new (fun _ : Unit => PV.bl true) (K.map fun x => (x, ())) b () (by rw [List.map_map]; simpa using h)
  unfold dU
  rw [List.map_append]
  exact this
@[simp] theorem dU_len (K : List Int) : (dU K).length = K.length := by simp [dU]
theorem srt_u (K : List Int) : op1 .sorted (.dic (dU K)) = some (.olst ((sortD K).map rep)) := by
  have e : (dU K).map (·.1) = K.map rep := by unfold dU dmap; rw [List.map_map, List.map_map]; rfl
  have := op_sorted K
  show (if sortable ((dU K).map (·.1)) then some (Slot.olst (sortV ((dU K).map (·.1)))) else none) = _
  rw [e]
  exact this
section
variable {n : Nat} {m : Int} {P : List (Int × Int)} {lot ins : List Int}
def ldE (S : Slot) (lot ins K W : List Int) (a b c : Slot) : RF.Env := [S, .val (.tup (lot.map rep)), .val (.tup (ins.map rep)), .odic (dU K), .olst (W.map rep), a, b, c]
theorem led_dc {S : Slot} (nd : lot.Nodup) (hl : lot.length ≤ 1000) : evE (G n) led_from_dc0 [S, .val (.tup (lot.map rep)), .val (.tup (ins.map rep)), .dead, .dead, .dead, .dead, .dead] = .ok (.sl (.odic (dU lot))) [S, .val (.tup (lot.map rep)), .val (.tup (ins.map rep)), .dead, .dead, .dead, .dead, .dead] := by
  unfold led_from_dc0 dU
  refine dc_pure (G _) (v := .pl 1 []) (f := rep) (kf := fun x : Int => x) (vf := fun _ => ()) (w := fun _ => PV.bl true) (xs := lot) ?_ ?_ ?_ ?_ ?_
  · simp (disch := first | omega | assumption | (unfold RF.sm; omega) | (unfold RF.sm64; omega) | (simp only [List.length_append, List.length_cons, List.length_nil, List.length_map]; omega) | (simp; omega) | simp)
  · rfl
  · omega
  · simpa using nd
  · intro v hv
    simp (disch := first | omega | assumption | (unfold RF.sm; omega) | (unfold RF.sm64; omega) | (simp only [List.length_append, List.length_cons, List.length_nil, List.length_map]; omega) | (simp; omega) | simp) [dcTurn, wipeE]
theorem led_in {S : Slot} (hS : S = .olst (P.map rep) ∨ S = .val (.tup (P.map rep))) (hP : P.length ≤ 2000) {K W : List Int} {u : Int} {b c : Slot} (nd : K.Nodup) (hk : K.length ≤ 1000) (hw : W.length ≤ 1000) :
    Nx (fun e => ∃ E b c, e = ldE S lot ins (K ++ E) (W ++ E) (.val (.int u)) b c ∧ (K ++ E).Nodup ∧ (∀ x ∈ E, (u, x) ∈ P ∧ x ∈ ins) ∧ (∀ p ∈ P, p.1 = u → p.2 ∈ ins → p.2 ∈ K ++ E)) (evS (G n) led_from_for0 (ldE S lot ins K W (.val (.int u)) b c)) := by
  unfold led_from_for0
  have hit : evI (G n) (T.isq (T.plc 0 [])) (ldE S lot ins K W (.val (.int u)) b c) = .ok (.pl 0 [], P.map rep) (ldE S lot ins K W (.val (.int u)) b c) := by
    rcases hS with rfl | rfl <;> unfold ldE <;> simp (disch := first | omega | assumption | (unfold RF.sm; omega) | (unfold RF.sm64; omega) | (simp only [List.length_append, List.length_cons, List.length_nil, List.length_map]; omega) | (simp; omega) | simp)
  refine for_P _ _ hit (fun pre post e => ∃ E b c, e = ldE S lot ins (K ++ E) (W ++ E) (.val (.int u)) b c ∧ (K ++ E).Nodup ∧ (∀ x ∈ E, (u, x) ∈ P ∧ x ∈ ins) ∧ (∀ p ∈ pre, p.1 = u → p.2 ∈ ins → p.2 ∈ K ++ E) ∧ E.length ≤ pre.length) ⟨[], b, c, by simp, by simpa using nd, nofun, nofun, by simp⟩ ?_ ?_
  · rintro pre ⟨x, y⟩ post e he ⟨E, b, c, rfl, h1, h2, h3, h4⟩
    have hlen := congrArg List.length he
    rw [List.length_append, List.length_cons] at hlen
    have hmem : (x, y) ∈ P := by rw [he]; simp
    have skip : (x = u → y ∈ ins → y ∈ K ++ E) → ∀ p ∈ pre ++ [(x, y)], p.1 = u → p.2 ∈ ins → p.2 ∈ K ++ E := fun q p hp k1 k2 => by
      rcases List.mem_append.mp hp with z | z
      · exact h3 p z k1 k2
      · rw [List.mem_singleton.mp z] at k1 k2 ⊢
        exact q k1 k2
    by_cases c1 : x = u
    · by_cases c2 : y ∈ ins
      · by_cases c3 : y ∈ K ++ E
        · exact turn_go (ldE S lot ins (K ++ E) (W ++ E) (.val (.int u)) (.val (.int x)) (.val (.int y))) (by unfold ldE; simp (disch := first | omega | assumption | (unfold RF.sm; omega) | (unfold RF.sm64; omega) | (simp only [List.length_append, List.length_cons, List.length_nil, List.length_map]; omega) | (simp; omega) | simp) [c1, c2, c3]) (by unfold ldE; simp (disch := first | omega | assumption | (unfold RF.sm; omega) | (unfold RF.sm64; omega) | (simp only [List.length_append, List.length_cons, List.length_nil, List.length_map]; omega) | (simp; omega) | simp)) ⟨E, _, _, rfl, h1, h2, skip fun _ _ => c3, by simp; omega⟩
        · have dp := dPut_u (K ++ E) y c3
          refine turn_go (ldE S lot ins (K ++ (E ++ [y])) (W ++ (E ++ [y])) (.val (.int u)) (.val (.int x)) (.val (.int y))) ?_ (by unfold ldE; simp (disch := first | omega | assumption | (unfold RF.sm; omega) | (unfold RF.sm64; omega) | (simp only [List.length_append, List.length_cons, List.length_nil, List.length_map]; omega) | (simp; omega) | simp)) ⟨E ++ [y], _, _, rfl, ?_, fun z hz => ?_, fun p hp k1 k2 => ?_, by simp; omega⟩
          · rw [← List.append_assoc, ← List.append_assoc]
            generalize hKE : K ++ E = KE at *
            have : KE.length ≤ 3001 := by rw [← hKE, List.length_append]; omega
            generalize hWE : W ++ E = WE at *
            have : WE.length ≤ 3001 := by rw [← hWE, List.length_append]; omega
            unfold ldE
            simp (disch := first | omega | assumption | (unfold RF.sm; omega) | (unfold RF.sm64; omega) | (simp only [List.length_append, List.length_cons, List.length_nil, List.length_map]; omega) | (simp; omega) | simp) [c1, c2, c3, dp]
          · rw [← List.append_assoc, List.nodup_append]
            exact ⟨h1, by simp, fun a ha b hb e => c3 (by rw [← List.mem_singleton.mp hb, ← e]; exact ha)⟩
          · rcases List.mem_append.mp hz with q | q
            · exact h2 z q
            · rw [List.mem_singleton.mp q, ← c1]
              exact ⟨hmem, c2⟩
          · rw [← List.append_assoc]
            rcases List.mem_append.mp hp with z | z
            · exact List.mem_append_left _ (h3 p z k1 k2)
            · rw [List.mem_singleton.mp z]; simp
      · exact turn_go (ldE S lot ins (K ++ E) (W ++ E) (.val (.int u)) (.val (.int x)) (.val (.int y))) (by unfold ldE; simp (disch := first | omega | assumption | (unfold RF.sm; omega) | (unfold RF.sm64; omega) | (simp only [List.length_append, List.length_cons, List.length_nil, List.length_map]; omega) | (simp; omega) | simp) [c1, c2]) (by unfold ldE; simp (disch := first | omega | assumption | (unfold RF.sm; omega) | (unfold RF.sm64; omega) | (simp only [List.length_append, List.length_cons, List.length_nil, List.length_map]; omega) | (simp; omega) | simp)) ⟨E, _, _, rfl, h1, h2, skip fun _ q => absurd q c2, by simp; omega⟩
    · exact turn_go (ldE S lot ins (K ++ E) (W ++ E) (.val (.int u)) (.val (.int x)) (.val (.int y))) (by unfold ldE; simp (disch := first | omega | assumption | (unfold RF.sm; omega) | (unfold RF.sm64; omega) | (simp only [List.length_append, List.length_cons, List.length_nil, List.length_map]; omega) | (simp; omega) | simp) [c1]) (by unfold ldE; simp (disch := first | omega | assumption | (unfold RF.sm; omega) | (unfold RF.sm64; omega) | (simp only [List.length_append, List.length_cons, List.length_nil, List.length_map]; omega) | (simp; omega) | simp)) ⟨E, _, _, rfl, h1, h2, skip fun q => absurd q c1, by simp; omega⟩
  · rintro e ⟨E, b, c, rfl, h1, h2, h3, h4⟩
    exact .mk _ ⟨E, b, c, rfl, h1, h2, h3⟩
def dAt (i : Nat) (e : RF.Env) : Nat := match e.getD i .dead with
  | .odic d => d.length
  | _ => 0
theorem led_whl {S : Slot} (hS : S = .olst (P.map rep) ∨ S = .val (.tup (P.map rep))) (hP : P.length ≤ 2000) (hm : m ≤ 6) (nd : lot.Nodup) (hl : ∀ v ∈ lot, 0 ≤ v ∧ v < m) (hi : ∀ v ∈ ins, 0 ≤ v ∧ v < m) :
    Nx (fun e => ∃ K a b c, e = ldE S lot ins K [] a b c ∧ K.Nodup ∧ ∀ v, v ∈ K ↔ Cl P lot ins v) (evS (G n) led_from_whl0 (ldE S lot ins lot lot .dead .dead .dead)) := by
  unfold led_from_whl0
  refine whl_P (fun e => ∃ (K W : List Int) (a b c : Slot), e = ldE S lot ins K W a b c ∧ K.Nodup ∧ (∀ v ∈ lot, v ∈ K) ∧ (∀ v ∈ K, Cl P lot ins v) ∧ (∀ v ∈ W, v ∈ K) ∧ (∀ u ∈ K, u ∉ W → ∀ p ∈ P, p.1 = u → p.2 ∈ ins → p.2 ∈ K) ∧ W.Nodup) (fun e => (lenAt 4 e + 2 * m.toNat) - 2 * dAt 3 e) ⟨lot, lot, _, _, _, rfl, nd, fun _ h => h, fun v hv => .base hv, fun _ h => h, fun u h1 h2 => absurd h1 h2, nd⟩ (by have := few_m nd hl; simp [ldE, dAt]; omega) ?_
  rintro e ⟨K, W, a, b, c, rfl, h1, h2, h3, h4, h5, h6⟩
  have kb := few_m h1 fun v hv => (h3 v hv).bd hl hi
  rcases List.eq_nil_or_concat W with rfl | ⟨W0, u, rfl⟩
  · refine ⟨false, ldE S lot ins K [] a b c, by unfold ldE; simp (disch := first | omega | assumption | (unfold RF.sm; omega) | (unfold RF.sm64; omega) | (simp only [List.length_append, List.length_cons, List.length_nil, List.length_map]; omega) | (simp; omega) | simp), fun _ => .mk _ ⟨K, a, b, c, rfl, h1, fun v => ⟨h3 v, fun h => ?_⟩⟩, (fun q => nomatch q)⟩
    induction h with
    | base h => exact h2 _ h
    | step _ hp hi' ih => exact h5 _ ih (by simp) _ hp rfl hi'
  · rw [List.concat_eq_append] at *
    have w6 := few_m (m := m) h6 fun v hv => (h3 v (h4 v hv)).bd hl hi
    rw [List.length_append, List.length_singleton] at w6
    have nd0 := (List.nodup_append.mp h6).1
    obtain ⟨_, k1, E, b', c', rfl, k2, k3, k4⟩ := nx_elim (led_in (n := n) (lot := lot) (ins := ins) (W := W0) (u := u) (b := b) (c := c) hS hP h1 (by omega) (by omega))
    have hu : u ∈ K := h4 u (by simp)
    have kc : ∀ v ∈ K ++ E, Cl P lot ins v := fun v hv => by
      rcases List.mem_append.mp hv with q | q
      · exact h3 v q
      · obtain ⟨q1, q2⟩ := k3 v q
        exact .step (h3 u hu) q1 q2
    have kb2 := few_m k2 fun v hv => (kc v hv).bd hl hi
    rw [List.length_append] at kb2
    have e1 : (List.map rep W0 ++ [PV.int u]).isEmpty = false := by simp
    unfold ldE at k1
    refine ⟨true, ldE S lot ins K (W0 ++ [u]) a b c, by unfold ldE; simp (disch := first | omega | assumption | (unfold RF.sm; omega) | (unfold RF.sm64; omega) | (simp only [List.length_append, List.length_cons, List.length_nil, List.length_map]; omega) | (simp; omega) | simp) [e1], (fun q => nomatch q), fun _ => ?_⟩
    refine turn_go (ldE S lot ins (K ++ E) (W0 ++ E) (.val (.int u)) b' c') (by unfold ldE; simp (disch := first | omega | assumption | (unfold RF.sm; omega) | (unfold RF.sm64; omega) | (simp only [List.length_append, List.length_cons, List.length_nil, List.length_map]; omega) | (simp; omega) | simp) [e1, k1]) rfl ⟨⟨K ++ E, W0 ++ E, _, _, _, rfl, k2, fun v hv => List.mem_append_left _ (h2 v hv), kc, fun v hv => ?_, fun x hx hn p hp hp1 hp2 => ?_, ?_⟩, ?_⟩
    · rcases List.mem_append.mp hv with q | q
      · exact List.mem_append_left _ (h4 v (by simp [q]))
      · exact List.mem_append_right _ q
    · by_cases e2 : x = u
      · exact k4 p hp (hp1.trans e2) hp2
      · have hk : x ∈ K := by
          rcases List.mem_append.mp hx with q | q
          · exact q
          · exact absurd (List.mem_append_right _ q) hn
        exact List.mem_append_left _ (h5 x hk (fun q => by
          rcases List.mem_append.mp q with q | q
          · exact hn (List.mem_append_left _ q)
          · exact e2 (List.mem_singleton.mp q)) p hp hp1 hp2)
    · rw [List.nodup_append]
      exact ⟨nd0, (List.nodup_append.mp k2).2.1, fun x hx y hy q => (List.nodup_append.mp k2).2.2 x (h4 x (List.mem_append_left _ hx)) y hy q⟩
    · simp [ldE, dAt]; omega
theorem led_from_ok {S : Slot} (hS : S = .olst (P.map rep) ∨ S = .val (.tup (P.map rep))) (hP : P.length ≤ 2000) (hm : m ≤ 6) (nd : lot.Nodup) (hl : ∀ v ∈ lot, 0 ≤ v ∧ v < m) (hi : ∀ v ∈ ins, 0 ≤ v ∧ v < m) :
    ∃ L, sem X.t (n + 1) 18 [S, .val (.tup (lot.map rep)), .val (.tup (ins.map rep))] = .ok (.val (.tup (L.map rep))) [S, .val (.tup (lot.map rep)), .val (.tup (ins.map rep))] ∧ LotOk m L ∧ ∀ v, v ∈ L ↔ Cl P lot ins v := by
  obtain ⟨_, k1, K, a, b, c, rfl, k2, k3⟩ := nx_elim (led_whl (n := n) hS hP hm nd hl hi)
  have kl := few_m nd hl
  refine ⟨sortD K, ?_, ⟨fun v hv => ((k3 v).mp (sortD_mem.mp hv)).bd hl hi, sortD_lt k2⟩, fun v => by rw [sortD_mem]; exact k3 v⟩
  rw [run_led_from]
  have dc := led_dc (n := n) (ins := ins) (S := S) nd (by omega)
  have sk := srt_u K
  refine stepE [S, .val (.tup (lot.map rep)), .val (.tup (ins.map rep)), .odic (dU lot), .dead, .dead, .dead, .dead] (by rcases hS with rfl | rfl <;> simp (disch := first | omega | assumption | (unfold RF.sm; omega) | (unfold RF.sm64; omega) | (simp only [List.length_append, List.length_cons, List.length_nil, List.length_map]; omega) | (simp; omega) | simp) [dc]) ?_
  refine stepE (ldE S lot ins lot lot .dead .dead .dead) (by unfold ldE; rcases hS with rfl | rfl <;> simp (disch := first | omega | assumption | (unfold RF.sm; omega) | (unfold RF.sm64; omega) | (simp only [List.length_append, List.length_cons, List.length_nil, List.length_map]; omega) | (simp; omega) | simp)) ?_
  refine stepE _ k1 ?_
  unfold ldE
  rcases hS with rfl | rfl <;> simp (disch := first | omega | assumption | (unfold RF.sm; omega) | (unfold RF.sm64; omega) | (simp only [List.length_append, List.length_cons, List.length_nil, List.length_map]; omega) | (simp; omega) | simp) [sk]
end
end LW
end
section
set_option maxHeartbeats 1000000
namespace RF
open PySem
open Rp (rep)
structure LS where
  hd : Int
  tl : List Int
def LS.l (x : LS) : List Int := x.hd :: x.tl
theorem LS.inj {x y : LS} (h : x.l = y.l) : x = y := by
  cases x; cases y
  simp only [LS.l, List.cons.injEq] at h
  obtain ⟨rfl, rfl⟩ := h
  rfl
instance : DecidableEq LS := fun x y => decidable_of_iff (x.l = y.l) ⟨LS.inj, fun h => h ▸ rfl⟩
instance instSdLS : Sd LS where
  rep := fun x => rep x.l
  dep := 1
  ok := fun x => Rp.ok x.l
  eq := fun x y => (Rp.eq x.l y.l).trans ⟨LS.inj, fun h => h ▸ rfl⟩
  al := fun x y => Od.al x.l y.l
  nn := fun x => Od.nn x.l
  lt := fun x y => Od.lt x.l y.l
  dl := fun x y => Od.dl x.l y.l
  h_lt := fun x y => Od.h_lt x.l y.l
  irr := fun x => Od.irr x.l
  trans := fun x y z => Od.trans x.l y.l z.l
  tri := fun x y => (Od.tri x.l y.l).imp id (Or.imp LS.inj id)
  knd := .inl fun _ => rfl
  dpl := by decide
theorem rep_ls (x : LS) : (rep x : PV) = .tup (x.l.map rep) := (rfl)
theorem keyOks_ints (n : Nat) : ∀ l : List Int, keyOks n (toDs (l.map rep)) = true
  | [] => by simp [toDs, keyOks]
  | a :: l => by
    rw [List.map_cons, toDs, kos_cons, keyOks_ints n l, Bool.and_true]
    exact ko_int n a
theorem nestK_ints (l : List Int) : nestK (.tup (l.map rep)) = true := by
  show keyOk 8 (toD (.tup (l.map rep))) = true
  rw [toD, ko_tup]
  exact keyOks_ints 7 l
instance : Ky LS where
  ky := fun a b => by
    unfold famK
    rw [rep_ls, rep_ls, nestK_ints, nestK_ints]
    simp
def LS.of (l : List Int) : LS := ⟨l.headD 0, l.tail⟩
theorem LS.of_l {l : List Int} (h : l ≠ []) : (LS.of l).l = l := by
  cases l with
  | nil => exact absurd rfl h
  | cons a r => rfl
theorem rep_of {l : List Int} (h : l ≠ []) : (rep (LS.of l) : PV) = .tup (l.map rep) := by rw [rep_ls, LS.of_l h]
def dd1 {α : Type} [DecidableEq α] (acc : List α) (x : α) : List α := if x ∈ acc then acc else acc ++ [x]
def ddup {α : Type} [DecidableEq α] (xs : List α) : List α := xs.foldl dd1 []
theorem dd1_nd {α : Type} [DecidableEq α] {acc : List α} {x : α} (h : acc.Nodup) : (dd1 acc x).Nodup := by
  unfold dd1
  split
  · exact h
  · rename_i c
    rw [List.nodup_append]
    exact ⟨h, by simp, fun a ha b hb e => c (by rw [← List.mem_singleton.mp hb, ← e]; exact ha)⟩
theorem dd1_mem {α : Type} [DecidableEq α] {acc : List α} {x y : α} : y ∈ dd1 acc x ↔ y ∈ acc ∨ y = x := by
  unfold dd1
  split
  · rename_i c
    exact ⟨.inl, fun h => h.elim id fun e => e ▸ c⟩
  · simp
theorem dd1_len {α : Type} [DecidableEq α] {acc : List α} {x : α} : (dd1 acc x).length ≤ acc.length + 1 := by
  unfold dd1
  split <;> simp
theorem fold_dd {α : Type} [DecidableEq α] : ∀ (xs acc : List α), acc.Nodup → (xs.foldl dd1 acc).Nodup ∧ (∀ y, y ∈ xs.foldl dd1 acc ↔ y ∈ acc ∨ y ∈ xs) ∧ (xs.foldl dd1 acc).length ≤ acc.length + xs.length
  | [], acc, h => ⟨h, by simp, by simp⟩
  | x :: xs, acc, h => by
    obtain ⟨h1, h2, h3⟩ := fold_dd xs (dd1 acc x) (dd1_nd h)
    refine ⟨h1, fun y => ?_, ?_⟩
    · rw [List.foldl_cons, h2, dd1_mem, List.mem_cons, or_assoc]
    · have := dd1_len (acc := acc) (x := x)
      rw [List.foldl_cons, List.length_cons]
      omega
theorem ddup_nd {α : Type} [DecidableEq α] (xs : List α) : (ddup xs).Nodup := (fold_dd xs [] .nil).1
theorem ddup_mem {α : Type} [DecidableEq α] {xs : List α} {y : α} : y ∈ ddup xs ↔ y ∈ xs := by
  have := (fold_dd xs [] .nil).2.1 y
  simpa [ddup] using this
theorem ddup_len {α : Type} [DecidableEq α] (xs : List α) : (ddup xs).length ≤ xs.length := by
  have := (fold_dd xs [] .nil).2.2
  simpa [ddup] using this
def dG {α : Type} [Rp α] (K : List α) : List (PV × PV) := dmap (fun _ : Unit => PV.bl true) (K.map fun x => (x, ()))
section
variable {α : Type} [Ky α] [DecidableEq α]
theorem dG_len (K : List α) : (dG K).length = K.length := by simp [dG]
theorem dKeyOk_g (K : List α) (k : α) : dKeyOk (dG K) (rep k) = true := dKeyOk_map _ _ k
theorem dPut_g (K : List α) (k : α) : dPut (dG K) (rep k) (.bl true) = dG (dd1 K k) := by
  unfold dd1
  by_cases c : k ∈ K
  · rw [if_pos c]
    unfold dPut
    have h : (dG K).any (fun p => decide (p.1 = rep k)) = true := by
      rw [List.any_eq_true]
      exact ⟨(rep k, .bl true), by unfold dG dmap; rw [List.map_map]; exact List.mem_map.mpr ⟨k, c, rfl⟩, by simp⟩
    rw [if_pos h]
    unfold dG dmap
    rw [List.map_map, List.map_map, List.map_map]
    refine List.map_congr_left fun x _ => ?_
    dsimp only [Function.comp]
    split <;> rfl
  · rw [if_neg c]
    have := dPut_new (fun _ : Unit => PV.bl true) (K.map fun x => (x, ())) k () (by rw [List.map_map]; simpa using c)
    unfold dG
    rw [List.map_append]
    exact this
theorem dc_const {β : Type} (g : Gl) {it cs ke ve tg : T} {own : List Nat} {e : Env} {v : EV} (f : β → PV) (kf : β → α) (xs : List β) (hi : evI g it e = .ok (v, xs.map f) e) (ho : (own.all (plainAt e) && rootOut own v) = true) (hl : xs.length ≤ 1000000)
    (st : ∀ x ∈ xs, dcTurn tg own (evT g cs) (evE g ke) (evE g ve) (f x) (wipeE e own) = .ok (some (rep (kf x), .bl true)) (wipeE e own)) :
    evE g (.dlc own it tg cs ke ve) e = .ok (.sl (.odic (dG (ddup (xs.map kf))))) e := by
  rw [ev_dlc, hi]
  show kDc own tg (evT g cs) (evE g ke) (evE g ve) (v, xs.map f) e = _
  unfold kDc
  rw [if_pos ho]
  have go : ∀ (ys : List β) (acc : List α), (∀ y ∈ ys, y ∈ xs) → acc.length + ys.length ≤ 1000000 → dcL tg own (fun e1 => sameAt (wipeE e own) e1 v) (evT g cs) (evE g ke) (evE g ve) (ys.map f) (dG acc) (wipeE e own) = .ok (dG ((ys.map kf).foldl dd1 acc)) (wipeE e own) := by
    intro ys
    induction ys with
    | nil => intro acc _ _; rw [List.map_nil, dcL]; rfl
    | cons y ys ih =>
      intro acc h hn
      rw [List.length_cons] at hn
      have := dd1_len (acc := acc) (x := kf y)
      rw [List.map_cons, dcL_turn _ _ _ _ (st y (h y List.mem_cons_self)) (by cases v <;> simp) (fun p e => by cases e; exact dKeyOk_g _ _) (by rw [dG_len]; exact lt_lim (by omega))]
      dsimp only
      rw [dPut_g, ih _ (fun z hz => h z (List.mem_cons_of_mem _ hz)) (by omega)]
      rfl
  have e0 := go xs [] (fun _ h => h) (by simpa using hl)
  have e1 : (dG ([] : List α)) = [] := rfl
  rw [e1] at e0
  dsimp only
  rw [e0]
  dsimp only
  rw [back_wipe _ _ _ rfl]
  rfl
end
theorem srt_g {α : Type} [Sd α] (K : List α) : op1 .sorted (.dic (dG K)) = some (.olst ((sortD K).map rep)) := by
  have e : (dG K).map (·.1) = K.map rep := by unfold dG dmap; rw [List.map_map, List.map_map]; rfl
  have := op_sorted K
  show (if sortable ((dG K).map (·.1)) then some (Slot.olst (sortV ((dG K).map (·.1)))) else none) = _
  rw [e]
  exact this
end RF
end
section
set_option maxHeartbeats 1000000
namespace LW
open PySem RF
open RF.Rp (rep)
def swp (ar : List (Int × Int)) : List (Int × Int) := ar.map fun p => (p.2, p.1)
def both (ti : List (Int × Int)) : List (Int × Int) := ti ++ swp ti
section
variable {n : Nat} {m : Int} {ar ti : List (Int × Int)} {lot ins : List Int}
theorem swp_len : (swp ar).length = ar.length := by simp [swp]
theorem rg_bd {m : Int} : ∀ v ∈ rg 0 m, 0 ≤ v ∧ v < m := fun v h => rg_mem.mp h
theorem every_one_ok (hW : WebOk m ar ti) : sem X.t (n + 1) 14 [webS m ar ti] = .ok (.val (.tup ((rg 0 m).map rep))) [webS m ar ti] := by
  rw [run_every_one]
  have := hW.m6
  have := hW.m1
  simp (disch := first | omega | assumption | (unfold RF.sm; omega) | (unfold RF.sm64; omega) | (simp only [List.length_append, List.length_cons, List.length_nil, List.length_map]; omega) | (simp; omega) | simp)
theorem above_in_ok (hW : WebOk m ar ti) (hl : LotOk m lot) (hi : LotOk m ins) : ∃ L, sem X.t (n + 2) 19 [webS m ar ti, .val (.tup (lot.map rep)), .val (.tup (ins.map rep))] = .ok (.val (.tup (L.map rep))) [webS m ar ti, .val (.tup (lot.map rep)), .val (.tup (ins.map rep))] ∧ LotOk m L ∧ ∀ v, v ∈ L ↔ Cl (swp ar) lot ins v := by
  have la := hW.la
  obtain ⟨L, h1, h2, h3⟩ := led_from_ok (n := n) (S := .olst ((swp ar).map rep)) (P := swp ar) (.inl rfl) (by rw [swp_len]; omega) hW.m6 hl.nd hl.bd hi.bd
  refine ⟨L, ?_, h2, h3⟩
  rw [run_above_in]
  have lc : evE (G (n + 1)) above_in_lc0 [webS m ar ti, .val (.tup (lot.map rep)), .val (.tup (ins.map rep)), .dead, .dead] = .ok (.sl (.olst ((swp ar).map rep))) [webS m ar ti, .val (.tup (lot.map rep)), .val (.tup (ins.map rep)), .dead, .dead] := by
    unfold above_in_lc0 swp
    refine Eq.trans (lc_pure (G _) (v := .sl (.val (.tup (ar.map rep)))) (f := rep) (p := fun _ => true) (h := fun p : Int × Int => rep (p.2, p.1)) (xs := ar) ?_ ?_ ?_ ?_) (by simp [Function.comp_def])
    · simp (disch := first | omega | assumption | (unfold RF.sm; omega) | (unfold RF.sm64; omega) | (simp only [List.length_append, List.length_cons, List.length_nil, List.length_map]; omega) | (simp; omega) | simp)
    · rfl
    · omega
    · intro p hp
      simp (disch := first | omega | assumption | (unfold RF.sm; omega) | (unfold RF.sm64; omega) | (simp only [List.length_append, List.length_cons, List.length_nil, List.length_map]; omega) | (simp; omega) | simp) [lcTurn, wipeE]
  simp (disch := first | omega | assumption | (unfold RF.sm; omega) | (unfold RF.sm64; omega) | (simp only [List.length_append, List.length_cons, List.length_nil, List.length_map]; omega) | (simp; omega) | simp) [lc, h1]
theorem need_lot_ok (hl : LotOk m lot) (h6 : m ≤ 6) : sem X.t (n + 4) 13 [webS m ar ti, .val (.tup (lot.map rep))] = .ok (.val .non) [webS m ar ti, .val (.tup (lot.map rep))] := by
  rw [run_need_lot]
  have := few_m hl.nd hl.bd
  have il := is_lot_ok (n := n) hl (by omega)
  simp (disch := first | omega | assumption | (unfold RF.sm; omega) | (unfold RF.sm64; omega) | (simp only [List.length_append, List.length_cons, List.length_nil, List.length_map]; omega) | (simp; omega) | simp) [il]
theorem lot_rg (m : Int) : LotOk m (rg 0 m) := ⟨rg_bd, rg_asc 0 m⟩
theorem above_ok (hW : WebOk m ar ti) (hl : LotOk m lot) : ∃ L, sem X.t (n + 5) 20 [webS m ar ti, .val (.tup (lot.map rep))] = .ok (.val (.tup (L.map rep))) [webS m ar ti, .val (.tup (lot.map rep))] ∧ LotOk m L ∧ ∀ v, v ∈ L ↔ Cl (swp ar) lot (rg 0 m) v := by
  obtain ⟨L, h1, h2, h3⟩ := above_in_ok (n := n + 2) hW hl (lot_rg m)
  refine ⟨L, ?_, h2, h3⟩
  rw [run_above]
  have nl := need_lot_ok (n := n) (ar := ar) (ti := ti) hl hW.m6
  have eo := every_one_ok (n := n + 3) hW
  simp (disch := first | omega | assumption | (unfold RF.sm; omega) | (unfold RF.sm64; omega) | (simp only [List.length_append, List.length_cons, List.length_nil, List.length_map]; omega) | (simp; omega) | simp) [nl, eo, h1]
theorem below_in_ok (hW : WebOk m ar ti) (hl : LotOk m lot) (hi : LotOk m ins) : ∃ L, sem X.t (n + 2) 21 [webS m ar ti, .val (.tup (lot.map rep)), .val (.tup (ins.map rep))] = .ok (.val (.tup (L.map rep))) [webS m ar ti, .val (.tup (lot.map rep)), .val (.tup (ins.map rep))] ∧ LotOk m L ∧ ∀ v, v ∈ L ↔ Cl ar lot ins v := by
  have la := hW.la
  obtain ⟨L, h1, h2, h3⟩ := led_from_ok (n := n) (S := .val (.tup (ar.map rep))) (P := ar) (.inr rfl) (by omega) hW.m6 hl.nd hl.bd hi.bd
  refine ⟨L, ?_, h2, h3⟩
  rw [run_below_in]
  simp (disch := first | omega | assumption | (unfold RF.sm; omega) | (unfold RF.sm64; omega) | (simp only [List.length_append, List.length_cons, List.length_nil, List.length_map]; omega) | (simp; omega) | simp) [h1]
theorem below_ok (hW : WebOk m ar ti) (hl : LotOk m lot) : ∃ L, sem X.t (n + 5) 22 [webS m ar ti, .val (.tup (lot.map rep))] = .ok (.val (.tup (L.map rep))) [webS m ar ti, .val (.tup (lot.map rep))] ∧ LotOk m L ∧ ∀ v, v ∈ L ↔ Cl ar lot (rg 0 m) v := by
  obtain ⟨L, h1, h2, h3⟩ := below_in_ok (n := n + 2) hW hl (lot_rg m)
  refine ⟨L, ?_, h2, h3⟩
  rw [run_below]
  have nl := need_lot_ok (n := n) (ar := ar) (ti := ti) hl hW.m6
  have eo := every_one_ok (n := n + 3) hW
  simp (disch := first | omega | assumption | (unfold RF.sm; omega) | (unfold RF.sm64; omega) | (simp only [List.length_append, List.length_cons, List.length_nil, List.length_map]; omega) | (simp; omega) | simp) [nl, eo, h1]
theorem both_ok (ht : ti.length ≤ 1000) : sem X.t (n + 1) 23 [.val (.tup (ti.map rep))] = .ok (.olst ((both ti).map rep)) [.val (.tup (ti.map rep))] := by
  rw [run_both_ways]
  have lc : evE (G n) both_ways_lc0 [.val (.tup (ti.map rep)), .dead, .dead] = .ok (.sl (.olst ((swp ti).map rep))) [.val (.tup (ti.map rep)), .dead, .dead] := by
    unfold both_ways_lc0 swp
    refine Eq.trans (lc_pure (G _) (v := .pl 0 []) (f := rep) (p := fun _ => true) (h := fun p : Int × Int => rep (p.2, p.1)) (xs := ti) ?_ ?_ ?_ ?_) (by simp [Function.comp_def])
    · simp (disch := first | omega | assumption | (unfold RF.sm; omega) | (unfold RF.sm64; omega) | (simp only [List.length_append, List.length_cons, List.length_nil, List.length_map]; omega) | (simp; omega) | simp)
    · rfl
    · omega
    · intro p hp
      simp (disch := first | omega | assumption | (unfold RF.sm; omega) | (unfold RF.sm64; omega) | (simp only [List.length_append, List.length_cons, List.length_nil, List.length_map]; omega) | (simp; omega) | simp) [lcTurn, wipeE]
  have l2 := swp_len (ar := ti)
  unfold both
  rw [List.map_append]
  simp (disch := first | omega | assumption | (unfold RF.sm; omega) | (unfold RF.sm64; omega) | (simp only [List.length_append, List.length_cons, List.length_nil, List.length_map]; omega) | (simp; omega) | simp) [lc]
theorem district_in_ok (hW : WebOk m ar ti) (hl : LotOk m lot) {v : Int} (hv : 0 ≤ v ∧ v < m) : ∃ L, sem X.t (n + 2) 24 [webS m ar ti, .val (.tup (lot.map rep)), .val (.int v)] = .ok (.val (.tup (L.map rep))) [webS m ar ti, .val (.tup (lot.map rep)), .val (.int v)] ∧ LotOk m L ∧ ∀ u, u ∈ L ↔ Cl (both ti) [v] lot u := by
  have lt := hW.lt
  obtain ⟨L, h1, h2, h3⟩ := led_from_ok (n := n) (S := .olst ((both ti).map rep)) (P := both ti) (lot := [v]) (.inl rfl) (by unfold both; rw [List.length_append, swp_len]; omega) hW.m6 (by simp) (fun u hu => by rw [List.mem_singleton.mp hu]; exact hv) hl.bd
  refine ⟨L, ?_, h2, h3⟩
  rw [run_district_in]
  have b := both_ok (n := n) (ti := ti) (by omega)
  rw [List.map_cons, List.map_nil, show (rep v : PV) = .int v from rfl] at h1
  simp (disch := first | omega | assumption | (unfold RF.sm; omega) | (unfold RF.sm64; omega) | (simp only [List.length_append, List.length_cons, List.length_nil, List.length_map]; omega) | (simp; omega) | simp) [b, h1]
theorem dist_ex (hW : WebOk m ar ti) (hl : LotOk m lot) (v : Int) : ∃ L, (0 ≤ v ∧ v < m) → (LotOk m L ∧ ∀ u, u ∈ L ↔ Cl (both ti) [v] lot u) := by
  by_cases hv : 0 ≤ v ∧ v < m
  · obtain ⟨L, _, h2, h3⟩ := district_in_ok (n := 0) hW hl hv
    exact ⟨L, fun _ => ⟨h2, h3⟩⟩
  · exact ⟨[], fun h => absurd h hv⟩
noncomputable def dis (hW : WebOk m ar ti) (hl : LotOk m lot) (v : Int) : List Int := (dist_ex hW hl v).choose
theorem dis_ok (hW : WebOk m ar ti) (hl : LotOk m lot) {v : Int} (hv : 0 ≤ v ∧ v < m) : LotOk m (dis hW hl v) ∧ (∀ u, u ∈ dis hW hl v ↔ Cl (both ti) [v] lot u) ∧ dis hW hl v ≠ [] := by
  obtain ⟨h1, h2⟩ := (dist_ex hW hl v).choose_spec hv
  refine ⟨h1, h2, fun e => ?_⟩
  have := (h2 v).mpr (.base (by simp))
  unfold dis at e
  rw [e] at this
  cases this
noncomputable def disS (hW : WebOk m ar ti) (hl : LotOk m lot) : List LS := sortD (ddup (lot.map fun v => LS.of (dis hW hl v)))
theorem districts_in_ok (hW : WebOk m ar ti) (hl : LotOk m lot) : sem X.t (n + 3) 25 [webS m ar ti, .val (.tup (lot.map rep))] = .ok (.val (.tup ((disS hW hl).map rep))) [webS m ar ti, .val (.tup (lot.map rep))] := by
  rw [run_districts_in]
  have kl := few_m hl.nd hl.bd
  have m6 := hW.m6
  have dc : evE (G (n + 2)) districts_in_dc0 [webS m ar ti, .val (.tup (lot.map rep)), .dead] = .ok (.sl (.odic (dG (ddup (lot.map fun v => LS.of (dis hW hl v)))))) [webS m ar ti, .val (.tup (lot.map rep)), .dead] := by
    unfold districts_in_dc0
    refine dc_const (G _) (v := .pl 1 []) (f := rep) (kf := fun v => LS.of (dis hW hl v)) (xs := lot) ?_ ?_ ?_ ?_
    · simp (disch := first | omega | assumption | (unfold RF.sm; omega) | (unfold RF.sm64; omega) | (simp only [List.length_append, List.length_cons, List.length_nil, List.length_map]; omega) | (simp; omega) | simp)
    · rfl
    · omega
    · intro v hv
      have hb := hl.bd v hv
      obtain ⟨L, h1, h2, h3⟩ := district_in_ok (n := n) hW hl hb
      obtain ⟨d1, d2, d3⟩ := dis_ok hW hl hb
      have e : L = dis hW hl v := h2.ext d1 fun u => by rw [h3, d2]
      rw [rep_of d3]
      subst e
      unfold webS at h1 ⊢
      simp (disch := first | omega | assumption | (unfold RF.sm; omega) | (unfold RF.sm64; omega) | (simp only [List.length_append, List.length_cons, List.length_nil, List.length_map]; omega) | (simp; omega) | simp) [dcTurn, wipeE, h1]
  have sg := srt_g (ddup (lot.map fun v => LS.of (dis hW hl v)))
  unfold disS
  generalize (ddup (lot.map fun v => LS.of (dis hW hl v))) = D at *
  simp (disch := first | omega | assumption | (unfold RF.sm; omega) | (unfold RF.sm64; omega) | (simp only [List.length_append, List.length_cons, List.length_nil, List.length_map]; omega) | (simp; omega) | simp) [dc, sg]
theorem districts_ok (hW : WebOk m ar ti) (hl : LotOk m lot) : sem X.t (n + 5) 26 [webS m ar ti, .val (.tup (lot.map rep))] = .ok (.val (.tup ((disS hW hl).map rep))) [webS m ar ti, .val (.tup (lot.map rep))] := by
  rw [run_districts]
  have nl := need_lot_ok (n := n) (ar := ar) (ti := ti) hl hW.m6
  have di := districts_in_ok (n := n + 1) hW hl
  simp (disch := first | omega | assumption | (unfold RF.sm; omega) | (unfold RF.sm64; omega) | (simp only [List.length_append, List.length_cons, List.length_nil, List.length_map]; omega) | (simp; omega) | simp) [nl, di]
end
end LW
end
section
set_option maxHeartbeats 1000000
namespace LW
open PySem RF
open RF.Rp (rep)
theorem Cl.mono {P P' : List (Int × Int)} {lot ins : List Int} (h : ∀ p ∈ P, p ∈ P') {v : Int} (c : Cl P lot ins v) : Cl P' lot ins v := by
  induction c with
  | base h => exact .base h
  | step _ hp hi ih => exact .step ih (h _ hp) hi
theorem swp_swp {ar : List (Int × Int)} : swp (swp ar) = ar := by
  unfold swp
  rw [List.map_map]
  exact (List.map_congr_left fun p _ => rfl).trans (List.map_id _)
theorem swp_app {a b : List (Int × Int)} : swp (a ++ b) = swp a ++ swp b := by simp [swp]
def tw (ti : List (Int × Int)) : List (Int × Int) := ti.flatMap fun p => [(p.1, p.2), (p.2, p.1)]
theorem tw_app {a b : List (Int × Int)} : tw (a ++ b) = tw a ++ tw b := by simp [tw]
theorem tw_len : ∀ ti : List (Int × Int), (tw ti).length = 2 * ti.length
  | [] => rfl
  | p :: r => by
    have := tw_len r
    unfold tw at *
    rw [List.flatMap_cons, List.length_append, this, List.length_cons]
    simp
    omega
theorem mem_tw {ti : List (Int × Int)} {p : Int × Int} : p ∈ tw ti ↔ p ∈ both ti := by
  obtain ⟨a, b⟩ := p
  unfold tw both swp
  rw [List.mem_flatMap, List.mem_append, List.mem_map]
  constructor
  · rintro ⟨⟨x, y⟩, h, q⟩
    simp at q
    rcases q with ⟨rfl, rfl⟩ | ⟨rfl, rfl⟩
    · exact .inl h
    · exact .inr ⟨(_, _), h, rfl⟩
  · rintro (h | ⟨⟨x, y⟩, h, q⟩)
    · exact ⟨_, h, by simp⟩
    · cases q
      exact ⟨_, h, by simp⟩
theorem scan_len (ins : List Int) : ∀ (P : List (Int × Int)) (out : List Int), (scanL P ins out).length ≤ out.length + P.length
  | [], out => Nat.le_refl _
  | p :: P, out => by
    have := scan_len ins P (scan1 ins out p)
    have h2 := scan1_le (ins := ins) (out := out) (p := p)
    show (scanL P ins (scan1 ins out p)).length ≤ _
    rw [List.length_cons]
    omega
section
variable {n : Nat} {m : Int} {ar ti : List (Int × Int)} {lot ins out : List Int}
def laE (m : Int) (ar ti : List (Int × Int)) (lot ins out : List Int) (a b : Slot) : RF.Env := [.val (webT m ar ti), .val (.tup (lot.map rep)), .val (.tup (ins.map rep)), .olst (out.map rep), a, b]
theorem la_for1 {a b : Slot} (hl : ar.length ≤ 1000) (ho : out.length ≤ 1000) : Nx (fun e => ∃ b, e = laE m ar ti lot ins (scanL (swp ar) ins out) a b) (evS (G n) _law_above_for1 (laE m ar ti lot ins out a b)) := by
  unfold _law_above_for1
  refine for_P (v := .sl (.val (.tup (ar.map rep)))) rep ar (by unfold laE; simp (disch := first | omega | assumption | (unfold RF.sm; omega) | (unfold RF.sm64; omega) | (simp only [List.length_append, List.length_cons, List.length_nil, List.length_map]; omega) | (simp; omega) | simp)) (fun pre post e => ∃ b, e = laE m ar ti lot ins (scanL (swp pre) ins out) a b) ⟨b, rfl⟩ ?_ ?_
  · rintro pre ⟨x, y⟩ post e he ⟨b, rfl⟩
    have hlen := congrArg List.length he
    rw [List.length_append, List.length_cons] at hlen
    have e1 : scanL (swp (pre ++ [(x, y)])) ins out = scan1 ins (scanL (swp pre) ins out) (y, x) := by
      rw [swp_app]
      unfold scanL
      rw [List.foldl_append]
      rfl
    have hb := scan_len ins (swp pre) out
    rw [swp_len] at hb
    rw [e1]
    generalize scanL (swp pre) ins out = O at *
    unfold scan1
    by_cases c1 : y ∈ O
    · by_cases c2 : x ∈ ins
      · by_cases c3 : x ∈ O
        · exact turn_go (laE m ar ti lot ins O a (.val (rep (x, y)))) (by unfold laE; simp (disch := first | omega | assumption | (unfold RF.sm; omega) | (unfold RF.sm64; omega) | (simp only [List.length_append, List.length_cons, List.length_nil, List.length_map]; omega) | (simp; omega) | simp) [c1, c2, c3]) rfl ⟨_, by simp [c3]; rfl⟩
        · exact turn_go (laE m ar ti lot ins (O ++ [x]) a (.val (rep (x, y)))) (by unfold laE; simp (disch := first | omega | assumption | (unfold RF.sm; omega) | (unfold RF.sm64; omega) | (simp only [List.length_append, List.length_cons, List.length_nil, List.length_map]; omega) | (simp; omega) | simp) [c1, c2, c3]) rfl ⟨_, by simp [c1, c2, c3]; rfl⟩
      · exact turn_go (laE m ar ti lot ins O a (.val (rep (x, y)))) (by unfold laE; simp (disch := first | omega | assumption | (unfold RF.sm; omega) | (unfold RF.sm64; omega) | (simp only [List.length_append, List.length_cons, List.length_nil, List.length_map]; omega) | (simp; omega) | simp) [c1, c2]) rfl ⟨_, by simp [c2]; rfl⟩
    · exact turn_go (laE m ar ti lot ins O a (.val (rep (x, y)))) (by unfold laE; simp (disch := first | omega | assumption | (unfold RF.sm; omega) | (unfold RF.sm64; omega) | (simp only [List.length_append, List.length_cons, List.length_nil, List.length_map]; omega) | (simp; omega) | simp) [c1]) rfl ⟨_, by simp [c1]; rfl⟩
  · rintro e ⟨b, rfl⟩
    exact .mk _ ⟨b, rfl⟩
theorem it_few {P : List (Int × Int)} (hm : m ≤ 6) (hl : LotOk m lot) (hi : LotOk m ins) (k : Nat) : (itS P ins lot k).length ≤ 6 := by
  obtain ⟨h1, h2, h3, _⟩ := itS_all (P := P) (ins := ins) hl.nd k
  have := few_m h2 fun v hv => (h3 v hv).bd hl.bd hi.bd
  omega
theorem law_above_ok (h1 : 1 ≤ m) (h6 : m ≤ 6) (ha : ar.length ≤ 1000) (hl : LotOk m lot) (hi : LotOk m ins) : ∃ L, sem X.t (n + 1) 36 [.val (webT m ar ti), .val (.tup (lot.map rep)), .val (.tup (ins.map rep))] = .ok (.val (.tup (L.map rep))) [.val (webT m ar ti), .val (.tup (lot.map rep)), .val (.tup (ins.map rep))] ∧ LotOk m L ∧ ∀ v, v ∈ L ↔ Cl (swp ar) lot ins v := by
  have ll := few_m hl.nd hl.bd
  have main : Nx (fun e => ∃ a b, e = laE m ar ti lot ins (itS (swp ar) ins lot m.toNat) a b) (evS (G n) _law_above_for0 (laE m ar ti lot ins lot .dead .dead)) := by
    unfold _law_above_for0
    refine for_P (v := .sl (.val .non)) rep (rg 0 m) (by unfold laE; simp (disch := first | omega | assumption | (unfold RF.sm; omega) | (unfold RF.sm64; omega) | (simp only [List.length_append, List.length_cons, List.length_nil, List.length_map]; omega) | (simp; omega) | simp)) (fun pre post e => ∃ a b, e = laE m ar ti lot ins (itS (swp ar) ins lot pre.length) a b) ⟨_, _, rfl⟩ ?_ ?_
    · rintro pre x post e he ⟨a, b, rfl⟩
      have fw := it_few (P := swp ar) h6 hl hi pre.length
      obtain ⟨_, k1, b', rfl⟩ := nx_elim (la_for1 (n := n) (m := m) (ti := ti) (lot := lot) (ins := ins) (out := itS (swp ar) ins lot pre.length) (a := .val (.int x)) (b := b) ha (by omega))
      refine turn_go (laE m ar ti lot ins (itS (swp ar) ins lot (pre.length + 1)) (.val (.int x)) b') ?_ rfl ⟨_, _, by rw [List.length_append, List.length_singleton]⟩
      rw [show itS (swp ar) ins lot (pre.length + 1) = scanL (swp ar) ins (itS (swp ar) ins lot pre.length) from rfl, ← k1]
      unfold laE
      simp (disch := first | omega | assumption | (unfold RF.sm; omega) | (unfold RF.sm64; omega) | (simp only [List.length_append, List.length_cons, List.length_nil, List.length_map]; omega) | (simp; omega) | simp)
    · rintro e ⟨a, b, rfl⟩
      exact .mk _ ⟨a, b, by rw [rg_len, Int.sub_zero]⟩
  obtain ⟨_, k1, a, b, rfl⟩ := nx_elim main
  obtain ⟨i1, i2, i3, _⟩ := itS_all (P := swp ar) (ins := ins) hl.nd m.toNat
  refine ⟨sortD (itS (swp ar) ins lot m.toNat), ?_, ⟨fun v hv => (i3 v (sortD_mem.mp hv)).bd hl.bd hi.bd, sortD_lt i2⟩, fun v => by rw [sortD_mem]; exact itS_mem hl.nd hl.bd hi.bd v⟩
  rw [run__law_above]
  refine stepE (laE m ar ti lot ins lot .dead .dead) (by unfold laE; simp (disch := first | omega | assumption | (unfold RF.sm; omega) | (unfold RF.sm64; omega) | (simp only [List.length_append, List.length_cons, List.length_nil, List.length_map]; omega) | (simp; omega) | simp)) ?_
  refine stepE _ k1 ?_
  generalize itS (swp ar) ins lot m.toNat = O at *
  unfold laE
  simp (disch := first | omega | assumption | (unfold RF.sm; omega) | (unfold RF.sm64; omega) | (simp only [List.length_append, List.length_cons, List.length_nil, List.length_map]; omega) | (simp; omega) | simp)
theorem law_below_ok (hW : WebOk m ar ti) (hl : LotOk m lot) : ∃ L, sem X.t (n + 2) 41 [.val (webT m ar ti), .val (.tup (lot.map rep))] = .ok (.val (.tup (L.map rep))) [.val (webT m ar ti), .val (.tup (lot.map rep))] ∧ LotOk m L ∧ ∀ v, v ∈ L ↔ Cl ar lot (rg 0 m) v := by
  have h1 := hW.m1
  have h6 := hW.m6
  have la := hW.la
  obtain ⟨L, k1, k2, k3⟩ := law_above_ok (n := n) (ti := []) (ar := swp ar) h1 h6 (by rw [swp_len]; omega) hl (lot_rg m)
  rw [swp_swp] at k3
  refine ⟨L, ?_, k2, k3⟩
  rw [run__law_below]
  have lc : evE (G (n + 1)) _law_below_lc0 [.val (webT m ar ti), .val (.tup (lot.map rep)), .dead, .dead] = .ok (.sl (.olst ((swp ar).map rep))) [.val (webT m ar ti), .val (.tup (lot.map rep)), .dead, .dead] := by
    unfold _law_below_lc0 swp
    refine Eq.trans (lc_pure (G _) (v := .sl (.val (.tup (ar.map rep)))) (f := rep) (p := fun _ => true) (h := fun p : Int × Int => rep (p.2, p.1)) (xs := ar) ?_ ?_ ?_ ?_) (by simp [Function.comp_def])
    · simp (disch := first | omega | assumption | (unfold RF.sm; omega) | (unfold RF.sm64; omega) | (simp only [List.length_append, List.length_cons, List.length_nil, List.length_map]; omega) | (simp; omega) | simp)
    · rfl
    · omega
    · intro p hp
      simp (disch := first | omega | assumption | (unfold RF.sm; omega) | (unfold RF.sm64; omega) | (simp only [List.length_append, List.length_cons, List.length_nil, List.length_map]; omega) | (simp; omega) | simp) [lcTurn, wipeE]
  refine stepE [.val (webT m ar ti), .val (.tup (lot.map rep)), .val (webT m (swp ar) []), .dead] (by simp (disch := first | omega | assumption | (unfold RF.sm; omega) | (unfold RF.sm64; omega) | (simp only [List.length_append, List.length_cons, List.length_nil, List.length_map]; omega) | (simp; omega) | simp) [lc]; first | done | rfl) ?_
  simp (disch := first | omega | assumption | (unfold RF.sm; omega) | (unfold RF.sm64; omega) | (simp only [List.length_append, List.length_cons, List.length_nil, List.length_map]; omega) | (simp; omega) | simp) [k1]
def ldsE (m : Int) (ar ti : List (Int × Int)) (lot : List Int) (v : Int) (out : List Int) (a b c : Slot) : RF.Env := [.val (webT m ar ti), .val (.tup (lot.map rep)), .val (.int v), .olst (out.map rep), a, b, c]
theorem ld_for2 {v x y : Int} {a c : Slot} (ho : out.length ≤ 2000) : Nx (fun e => ∃ c, e = ldsE m ar ti lot v (scan1 lot (scan1 lot out (x, y)) (y, x)) a (.val (rep (x, y))) c) (evS (G n) _law_district_for2 (ldsE m ar ti lot v out a (.val (rep (x, y))) c)) := by
  unfold _law_district_for2
  have e2 : rg 0 2 = [0, 1] := by decide
  refine for_P (v := .sl (.val .non)) rep (rg 0 2) (by unfold ldsE; simp (disch := first | omega | assumption | (unfold RF.sm; omega) | (unfold RF.sm64; omega) | (simp only [List.length_append, List.length_cons, List.length_nil, List.length_map]; omega) | (simp; omega) | simp)) (fun pre post e => ∃ c, e = ldsE m ar ti lot v (pre.foldl (fun o k => scan1 lot o (if k = 0 then (x, y) else (y, x))) out) a (.val (rep (x, y))) c ∧ (pre.foldl (fun o k => scan1 lot o (if k = 0 then (x, y) else (y, x))) out).length ≤ 2000 + pre.length) ⟨c, rfl, by simpa using ho⟩ ?_ ?_
  · rintro pre k post e he ⟨c, rfl, hb⟩
    have hk : k ∈ rg 0 2 := by rw [he]; simp
    have hlen := congrArg List.length he
    rw [rg_len, List.length_append, List.length_cons] at hlen
    rw [List.foldl_append, List.length_append, List.length_singleton]
    generalize List.foldl (fun o k => scan1 lot o (if k = 0 then (x, y) else (y, x))) out pre = O at *
    rw [e2] at hk
    simp only [List.mem_cons, List.not_mem_nil, or_false] at hk
    have hs : ∀ q, (scan1 lot O q).length ≤ 2000 + (pre.length + 1) := fun q => by
      have := scan1_le (ins := lot) (out := O) (p := q)
      omega
    rcases hk with rfl | rfl
    · simp only [List.foldl_cons, List.foldl_nil, if_true]
      have hs := hs (x, y)
      unfold scan1 at hs ⊢
      by_cases c1 : x ∈ O
      · by_cases c2 : y ∈ lot
        · by_cases c3 : y ∈ O
          · exact turn_go (ldsE m ar ti lot v O a (.val (rep (x, y))) (.val (.int 0))) (by unfold ldsE; simp (disch := first | omega | assumption | (unfold RF.sm; omega) | (unfold RF.sm64; omega) | (simp only [List.length_append, List.length_cons, List.length_nil, List.length_map]; omega) | (simp; omega) | simp) [c1, c2, c3]) rfl ⟨_, by simp [c3]; rfl, hs⟩
          · exact turn_go (ldsE m ar ti lot v (O ++ [y]) a (.val (rep (x, y))) (.val (.int 0))) (by unfold ldsE; simp (disch := first | omega | assumption | (unfold RF.sm; omega) | (unfold RF.sm64; omega) | (simp only [List.length_append, List.length_cons, List.length_nil, List.length_map]; omega) | (simp; omega) | simp) [c1, c2, c3]) rfl ⟨_, by simp [c1, c2, c3]; rfl, hs⟩
        · exact turn_go (ldsE m ar ti lot v O a (.val (rep (x, y))) (.val (.int 0))) (by unfold ldsE; simp (disch := first | omega | assumption | (unfold RF.sm; omega) | (unfold RF.sm64; omega) | (simp only [List.length_append, List.length_cons, List.length_nil, List.length_map]; omega) | (simp; omega) | simp) [c1, c2]) rfl ⟨_, by simp [c2]; rfl, hs⟩
      · exact turn_go (ldsE m ar ti lot v O a (.val (rep (x, y))) (.val (.int 0))) (by unfold ldsE; simp (disch := first | omega | assumption | (unfold RF.sm; omega) | (unfold RF.sm64; omega) | (simp only [List.length_append, List.length_cons, List.length_nil, List.length_map]; omega) | (simp; omega) | simp) [c1]) rfl ⟨_, by simp [c1]; rfl, hs⟩
    · simp only [List.foldl_cons, List.foldl_nil, show ¬ ((1 : Int) = 0) by decide, if_false]
      have hs := hs (y, x)
      unfold scan1 at hs ⊢
      by_cases c1 : y ∈ O
      · by_cases c2 : x ∈ lot
        · by_cases c3 : x ∈ O
          · exact turn_go (ldsE m ar ti lot v O a (.val (rep (x, y))) (.val (.int 1))) (by unfold ldsE; simp (disch := first | omega | assumption | (unfold RF.sm; omega) | (unfold RF.sm64; omega) | (simp only [List.length_append, List.length_cons, List.length_nil, List.length_map]; omega) | (simp; omega) | simp) [c1, c2, c3]) rfl ⟨_, by simp [c3]; rfl, hs⟩
          · exact turn_go (ldsE m ar ti lot v (O ++ [x]) a (.val (rep (x, y))) (.val (.int 1))) (by unfold ldsE; simp (disch := first | omega | assumption | (unfold RF.sm; omega) | (unfold RF.sm64; omega) | (simp only [List.length_append, List.length_cons, List.length_nil, List.length_map]; omega) | (simp; omega) | simp) [c1, c2, c3]) rfl ⟨_, by simp [c1, c2, c3]; rfl, hs⟩
        · exact turn_go (ldsE m ar ti lot v O a (.val (rep (x, y))) (.val (.int 1))) (by unfold ldsE; simp (disch := first | omega | assumption | (unfold RF.sm; omega) | (unfold RF.sm64; omega) | (simp only [List.length_append, List.length_cons, List.length_nil, List.length_map]; omega) | (simp; omega) | simp) [c1, c2]) rfl ⟨_, by simp [c2]; rfl, hs⟩
      · exact turn_go (ldsE m ar ti lot v O a (.val (rep (x, y))) (.val (.int 1))) (by unfold ldsE; simp (disch := first | omega | assumption | (unfold RF.sm; omega) | (unfold RF.sm64; omega) | (simp only [List.length_append, List.length_cons, List.length_nil, List.length_map]; omega) | (simp; omega) | simp) [c1]) rfl ⟨_, by simp [c1]; rfl, hs⟩
  · rintro e ⟨c, rfl, _⟩
    refine .mk _ ⟨c, ?_⟩
    rw [e2]
    rfl
theorem ld_for1 {v : Int} {a b c : Slot} (ht : ti.length ≤ 6) (ho : out.length ≤ 1000) : Nx (fun e => ∃ b c, e = ldsE m ar ti lot v (scanL (tw ti) lot out) a b c) (evS (G n) _law_district_for1 (ldsE m ar ti lot v out a b c)) := by
  unfold _law_district_for1
  refine for_P (v := .sl (.val (.tup (ti.map rep)))) rep ti (by unfold ldsE; simp (disch := first | omega | assumption | (unfold RF.sm; omega) | (unfold RF.sm64; omega) | (simp only [List.length_append, List.length_cons, List.length_nil, List.length_map]; omega) | (simp; omega) | simp)) (fun pre post e => ∃ b c, e = ldsE m ar ti lot v (scanL (tw pre) lot out) a b c) ⟨b, c, rfl⟩ ?_ ?_
  · rintro pre ⟨x, y⟩ post e he ⟨b, c, rfl⟩
    have hlen := congrArg List.length he
    rw [List.length_append, List.length_cons] at hlen
    have e1 : scanL (tw (pre ++ [(x, y)])) lot out = scan1 lot (scan1 lot (scanL (tw pre) lot out) (x, y)) (y, x) := by
      rw [tw_app]
      unfold scanL
      rw [List.foldl_append]
      rfl
    have hb := scan_len lot (tw pre) out
    have hw := tw_len pre
    obtain ⟨_, k1, c', rfl⟩ := nx_elim (ld_for2 (n := n) (m := m) (ar := ar) (ti := ti) (lot := lot) (out := scanL (tw pre) lot out) (v := v) (x := x) (y := y) (a := a) (c := c) (by omega))
    rw [e1]
    refine turn_go (ldsE m ar ti lot v (scan1 lot (scan1 lot (scanL (tw pre) lot out) (x, y)) (y, x)) a (.val (rep (x, y))) c') ?_ (by unfold ldsE; simp (disch := first | omega | assumption | (unfold RF.sm; omega) | (unfold RF.sm64; omega) | (simp only [List.length_append, List.length_cons, List.length_nil, List.length_map]; omega) | (simp; omega) | simp)) ⟨_, c', rfl⟩
    rw [← k1]
    unfold ldsE
    simp (disch := first | omega | assumption | (unfold RF.sm; omega) | (unfold RF.sm64; omega) | (simp only [List.length_append, List.length_cons, List.length_nil, List.length_map]; omega) | (simp; omega) | simp)
  · rintro e ⟨b, c, rfl⟩
    exact .mk _ ⟨b, c, rfl⟩
theorem law_district_ok (hW : WebOk m ar ti) (hl : LotOk m lot) {v : Int} (hv : 0 ≤ v ∧ v < m) : ∃ L, sem X.t (n + 1) 37 [.val (webT m ar ti), .val (.tup (lot.map rep)), .val (.int v)] = .ok (.val (.tup (L.map rep))) [.val (webT m ar ti), .val (.tup (lot.map rep)), .val (.int v)] ∧ LotOk m L ∧ ∀ u, u ∈ L ↔ Cl (both ti) [v] lot u := by
  have h1 := hW.m1
  have h6 := hW.m6
  have lv : LotOk m [v] := ⟨fun u hu => by rw [List.mem_singleton.mp hu]; exact hv, by simp⟩
  have main : Nx (fun e => ∃ a b c, e = ldsE m ar ti lot v (itS (tw ti) lot [v] m.toNat) a b c) (evS (G n) _law_district_for0 (ldsE m ar ti lot v [v] .dead .dead .dead)) := by
    unfold _law_district_for0
    refine for_P (v := .sl (.val .non)) rep (rg 0 m) (by unfold ldsE; simp (disch := first | omega | assumption | (unfold RF.sm; omega) | (unfold RF.sm64; omega) | (simp only [List.length_append, List.length_cons, List.length_nil, List.length_map]; omega) | (simp; omega) | simp)) (fun pre post e => ∃ a b c, e = ldsE m ar ti lot v (itS (tw ti) lot [v] pre.length) a b c) ⟨_, _, _, rfl⟩ ?_ ?_
    · rintro pre x post e he ⟨a, b, c, rfl⟩
      have fw := it_few (P := tw ti) h6 lv hl pre.length
      obtain ⟨_, k1, b', c', rfl⟩ := nx_elim (ld_for1 (n := n) (m := m) (ar := ar) (ti := ti) (lot := lot) (out := itS (tw ti) lot [v] pre.length) (v := v) (a := .val (.int x)) (b := b) (c := c) hW.lt (by omega))
      refine turn_go (ldsE m ar ti lot v (itS (tw ti) lot [v] (pre.length + 1)) (.val (.int x)) b' c') ?_ rfl ⟨_, _, _, by rw [List.length_append, List.length_singleton]⟩
      rw [show itS (tw ti) lot [v] (pre.length + 1) = scanL (tw ti) lot (itS (tw ti) lot [v] pre.length) from rfl, ← k1]
      unfold ldsE
      simp (disch := first | omega | assumption | (unfold RF.sm; omega) | (unfold RF.sm64; omega) | (simp only [List.length_append, List.length_cons, List.length_nil, List.length_map]; omega) | (simp; omega) | simp)
    · rintro e ⟨a, b, c, rfl⟩
      exact .mk _ ⟨a, b, c, by rw [rg_len, Int.sub_zero]⟩
  obtain ⟨_, k1, a, b, c, rfl⟩ := nx_elim main
  obtain ⟨i1, i2, i3, _⟩ := itS_all (P := tw ti) (ins := lot) lv.nd m.toNat
  refine ⟨sortD (itS (tw ti) lot [v] m.toNat), ?_, ⟨fun u hu => (i3 u (sortD_mem.mp hu)).bd lv.bd hl.bd, sortD_lt i2⟩, fun u => ?_⟩
  · rw [run__law_district]
    refine stepE (ldsE m ar ti lot v [v] .dead .dead .dead) (by unfold ldsE; simp (disch := first | omega | assumption | (unfold RF.sm; omega) | (unfold RF.sm64; omega) | (simp only [List.length_append, List.length_cons, List.length_nil, List.length_map]; omega) | (simp; omega) | simp)) ?_
    refine stepE _ k1 ?_
    generalize itS (tw ti) lot [v] m.toNat = O at *
    unfold ldsE
    simp (disch := first | omega | assumption | (unfold RF.sm; omega) | (unfold RF.sm64; omega) | (simp only [List.length_append, List.length_cons, List.length_nil, List.length_map]; omega) | (simp; omega) | simp)
  · rw [sortD_mem, itS_mem lv.nd lv.bd hl.bd u]
    exact ⟨Cl.mono fun p hp => mem_tw.mp hp, Cl.mono fun p hp => mem_tw.mpr hp⟩
theorem all_ls (K : List LS) (k : Nat) : (K.map rep).all (okN (k + 1)) = true := okAll (Nat.succ_le_succ (Nat.zero_le _)) K
theorem law_districts_ok (hW : WebOk m ar ti) (hl : LotOk m lot) : sem X.t (n + 2) 38 [.val (webT m ar ti), .val (.tup (lot.map rep))] = .ok (.val (.tup ((disS hW hl).map rep))) [.val (webT m ar ti), .val (.tup (lot.map rep))] := by
  rw [run__law_districts]
  have kl := few_m hl.nd hl.bd
  have m6 := hW.m6
  have main : Nx (fun e => ∃ a b, e = [.val (webT m ar ti), .val (.tup (lot.map rep)), .olst ((ddup (lot.map fun v => LS.of (dis hW hl v))).map rep), a, b]) (evS (G (n + 1)) _law_districts_for0 [.val (webT m ar ti), .val (.tup (lot.map rep)), .olst [], .dead, .dead]) := by
    unfold _law_districts_for0
    refine for_P (v := .pl 1 []) rep lot (by simp (disch := first | omega | assumption | (unfold RF.sm; omega) | (unfold RF.sm64; omega) | (simp only [List.length_append, List.length_cons, List.length_nil, List.length_map]; omega) | (simp; omega) | simp)) (fun pre post e => ∃ a b, e = [.val (webT m ar ti), .val (.tup (lot.map rep)), .olst ((ddup (pre.map fun v => LS.of (dis hW hl v))).map rep), a, b]) ⟨_, _, rfl⟩ ?_ ?_
    · rintro pre v post e he ⟨a, b, rfl⟩
      have hlen := congrArg List.length he
      rw [List.length_append, List.length_cons] at hlen
      have hb := hl.bd v (by rw [he]; simp)
      obtain ⟨L, h1, h2, h3⟩ := law_district_ok (n := n) hW hl hb
      obtain ⟨d1, d2, d3⟩ := dis_ok hW hl hb
      have e0 : L = dis hW hl v := h2.ext d1 fun u => by rw [h3, d2]
      subst e0
      rw [← rep_of d3] at h1
      have e1 : ddup ((pre ++ [v]).map fun v => LS.of (dis hW hl v)) = dd1 (ddup (pre.map fun v => LS.of (dis hW hl v))) (LS.of (dis hW hl v)) := by
        unfold ddup
        rw [List.map_append, List.foldl_append]
        rfl
      have dl := ddup_len (pre.map fun v => LS.of (dis hW hl v))
      rw [List.length_map] at dl
      rw [e1]
      generalize ddup (pre.map fun v => LS.of (dis hW hl v)) = K at *
      generalize LS.of (dis hW hl v) = x at *
      have ak := all_ls K
      have ax : ∀ k, okN (k + 1) (rep x) = true := fun k => by have := all_ls [x] k; simpa using this
      have an := any_rep K x
      unfold dd1
      by_cases c : x ∈ K
      · rw [if_pos c]
        refine turn_go [.val (webT m ar ti), .val (.tup (lot.map rep)), .olst (K.map rep), .val (.int v), .val (rep x)] (by simp (disch := first | omega | assumption | (unfold RF.sm; omega) | (unfold RF.sm64; omega) | (simp only [List.length_append, List.length_cons, List.length_nil, List.length_map]; omega) | (simp; omega) | simp) [h1, ak, ax, an, c]) (by simp (disch := first | omega | assumption | (unfold RF.sm; omega) | (unfold RF.sm64; omega) | (simp only [List.length_append, List.length_cons, List.length_nil, List.length_map]; omega) | (simp; omega) | simp)) ⟨_, _, rfl⟩
      · rw [if_neg c]
        refine turn_go [.val (webT m ar ti), .val (.tup (lot.map rep)), .olst ((K ++ [x]).map rep), .val (.int v), .val (rep x)] (by simp (disch := first | omega | assumption | (unfold RF.sm; omega) | (unfold RF.sm64; omega) | (simp only [List.length_append, List.length_cons, List.length_nil, List.length_map]; omega) | (simp; omega) | simp) [h1, ak, ax, an, c]) (by simp (disch := first | omega | assumption | (unfold RF.sm; omega) | (unfold RF.sm64; omega) | (simp only [List.length_append, List.length_cons, List.length_nil, List.length_map]; omega) | (simp; omega) | simp)) ⟨_, _, rfl⟩
    · rintro e ⟨a, b, rfl⟩
      exact .mk _ ⟨a, b, rfl⟩
  refine stepE [.val (webT m ar ti), .val (.tup (lot.map rep)), .olst [], .dead, .dead] (by simp (disch := first | omega | assumption | (unfold RF.sm; omega) | (unfold RF.sm64; omega) | (simp only [List.length_append, List.length_cons, List.length_nil, List.length_map]; omega) | (simp; omega) | simp)) ?_
  refine nxE main ?_
  rintro _ ⟨a, b, rfl⟩
  unfold disS
  generalize ddup (lot.map fun v => LS.of (dis hW hl v)) = K at *
  simp (disch := first | omega | assumption | (unfold RF.sm; omega) | (unfold RF.sm64; omega) | (simp only [List.length_append, List.length_cons, List.length_nil, List.length_map]; omega) | (simp; omega) | simp)
end
end LW
end
section
set_option maxHeartbeats 1000000
namespace LW
open PySem RF
open RF.Rp (rep)
def par (ar : List (Int × Int)) (v : Int) : List Int := (ar.filter fun p => decide (p.2 = v)).map (·.1)
theorem par_len (ar : List (Int × Int)) (v : Int) : (par ar v).length ≤ ar.length := by
  unfold par
  rw [List.length_map]
  exact List.length_filter_le _ _
section
variable {n : Nat} {m : Int} {ar ti : List (Int × Int)}
theorem parents_lc {v : Int} (hl : ar.length ≤ 1000) : evE (G n) parents_of_lc0 [webS m ar ti, .val (.int v), .dead, .dead] = .ok (.sl (.olst ((par ar v).map rep))) [webS m ar ti, .val (.int v), .dead, .dead] := by
  unfold parents_of_lc0
  refine Eq.trans (lc_pure (G _) (v := .sl (.val (.tup (ar.map rep)))) (f := rep) (p := fun p : Int × Int => decide (p.2 = v)) (h := fun p => .int p.1) (xs := ar) ?_ ?_ ?_ ?_) ?_
  · simp (disch := first | omega | assumption | (unfold RF.sm; omega) | (unfold RF.sm64; omega) | (simp only [List.length_append, List.length_cons, List.length_nil, List.length_map]; omega) | (simp; omega) | simp)
  · rfl
  · omega
  · intro p hp
    by_cases h : p.2 = v <;> simp (disch := first | omega | assumption | (unfold RF.sm; omega) | (unfold RF.sm64; omega) | (simp only [List.length_append, List.length_cons, List.length_nil, List.length_map]; omega) | (simp; omega) | simp) [lcTurn, wipeE, h]
  · unfold par; rw [List.map_map]; rfl
@[simp] theorem parents_of_ok (v : Int) (hl : ar.length ≤ 1000) : sem X.t (n + 1) 16 [webS m ar ti, .val (.int v)] = .ok (.val (.tup ((par ar v).map rep))) [webS m ar ti, .val (.int v)] := by
  rw [run_parents_of]
  simp (disch := first | omega | assumption | (unfold RF.sm; omega) | (unfold RF.sm64; omega) | (simp only [List.length_append, List.length_cons, List.length_nil, List.length_map]; omega) | (simp; omega) | simp) [parents_lc]
end
end LW
end
section
set_option maxHeartbeats 1000000
namespace LW
open PySem RF
open RF.Rp (rep)
def setA (lot : List Int) (ar : List (Int × Int)) : List (Int × Int) := ar.filter fun p => !decide (p.2 ∈ lot)
def setT (lot : List Int) (ti : List (Int × Int)) : List (Int × Int) := ti.filter fun p => !decide (p.1 ∈ lot) && !decide (p.2 ∈ lot)
def shuA (lot : List Int) (ar : List (Int × Int)) : List (Int × Int) := ar.filter fun p => !decide (p.1 ∈ lot)
theorem WebOk.sub {m : Int} {ar ti : List (Int × Int)} (h : WebOk m ar ti) {ar' ti' : List (Int × Int)} (ha : ar'.Sublist ar) (ht : ti'.Sublist ti) : WebOk m ar' ti' := by
  obtain ⟨r, hr⟩ := h.rank
  exact .of_rank h.m1 h.m6 (fun p hp => ⟨(h.aa p (ha.subset hp)).1, (h.aa p (ha.subset hp)).2.1⟩) (h.ap.sublist ha) (fun p hp => hr p (ha.subset hp)) (Nat.le_trans ht.length_le h.lt) (fun p hp => h.ta p (ht.subset hp)) (h.tp.sublist ht)
section
variable {n : Nat} {m : Int} {ar ti : List (Int × Int)} {lot : List Int}
theorem WebOk.set (h : WebOk m ar ti) (lot : List Int) : WebOk m (setA lot ar) (setT lot ti) := h.sub List.filter_sublist List.filter_sublist
theorem WebOk.shut (h : WebOk m ar ti) (lot : List Int) : WebOk m (shuA lot ar) ti := h.sub List.filter_sublist (List.Sublist.refl _)
theorem set_in_ok (hW : WebOk m ar ti) : sem X.t (n + 6) 27 [webS m ar ti, .val (.tup (lot.map rep))] = .ok (webS m (setA lot ar) (setT lot ti)) [webS m ar ti, .val (.tup (lot.map rep))] := by
  rw [run_set_in]
  have la := hW.la
  have lt := hW.lt
  have wi := Web_init_ok (n := n) (hW.set lot)
  have lc0 : evE (G (n + 5)) set_in_lc0 [webS m ar ti, .val (.tup (lot.map rep)), .dead, .dead, .dead, .dead] = .ok (.sl (.olst ((setA lot ar).map rep))) [webS m ar ti, .val (.tup (lot.map rep)), .dead, .dead, .dead, .dead] := by
    unfold set_in_lc0 setA
    refine Eq.trans (lc_pure (G _) (v := .sl (.val (.tup (ar.map rep)))) (f := rep) (p := fun p : Int × Int => !decide (p.2 ∈ lot)) (h := rep) (xs := ar) ?_ ?_ ?_ ?_) rfl
    · simp (disch := first | omega | assumption | (unfold RF.sm; omega) | (unfold RF.sm64; omega) | (simp only [List.length_append, List.length_cons, List.length_nil, List.length_map]; omega) | (simp; omega) | simp)
    · rfl
    · omega
    · intro p hp
      by_cases c : p.2 ∈ lot <;> simp (disch := first | omega | assumption | (unfold RF.sm; omega) | (unfold RF.sm64; omega) | (simp only [List.length_append, List.length_cons, List.length_nil, List.length_map]; omega) | (simp; omega) | simp) [lcTurn, wipeE, c]
  have lc1 : ∀ x : Slot, evE (G (n + 5)) set_in_lc1 [webS m ar ti, .val (.tup (lot.map rep)), x, .dead, .dead, .dead] = .ok (.sl (.olst ((setT lot ti).map rep))) [webS m ar ti, .val (.tup (lot.map rep)), x, .dead, .dead, .dead] := fun x => by
    unfold set_in_lc1 setT
    refine Eq.trans (lc_pure (G _) (v := .sl (.val (.tup (ti.map rep)))) (f := rep) (p := fun p : Int × Int => !decide (p.1 ∈ lot) && !decide (p.2 ∈ lot)) (h := rep) (xs := ti) ?_ ?_ ?_ ?_) rfl
    · simp (disch := first | omega | assumption | (unfold RF.sm; omega) | (unfold RF.sm64; omega) | (simp only [List.length_append, List.length_cons, List.length_nil, List.length_map]; omega) | (simp; omega) | simp)
    · rfl
    · omega
    · intro p hp
      by_cases c : p.1 ∈ lot <;> by_cases c2 : p.2 ∈ lot <;> simp (disch := first | omega | assumption | (unfold RF.sm; omega) | (unfold RF.sm64; omega) | (simp only [List.length_append, List.length_cons, List.length_nil, List.length_map]; omega) | (simp; omega) | simp) [lcTurn, wipeE, c, c2]
  generalize setA lot ar = A at *
  generalize setT lot ti = T' at *
  refine stepE [webS m ar ti, .val (.tup (lot.map rep)), .val (.tup (A.map rep)), .dead, .dead, .dead] (by simp (disch := first | omega | assumption | (unfold RF.sm; omega) | (unfold RF.sm64; omega) | (simp only [List.length_append, List.length_cons, List.length_nil, List.length_map]; omega) | (simp; omega) | simp) [lc0]) ?_
  refine stepE [webS m ar ti, .val (.tup (lot.map rep)), .val (.tup (A.map rep)), .val (.tup (T'.map rep)), .dead, .dead] (by simp (disch := first | omega | assumption | (unfold RF.sm; omega) | (unfold RF.sm64; omega) | (simp only [List.length_append, List.length_cons, List.length_nil, List.length_map]; omega) | (simp; omega) | simp) [lc1]) ?_
  simp (disch := first | omega | assumption | (unfold RF.sm; omega) | (unfold RF.sm64; omega) | (simp only [List.length_append, List.length_cons, List.length_nil, List.length_map]; omega) | (simp; omega) | simp) [wi]
theorem shut_in_ok (hW : WebOk m ar ti) : sem X.t (n + 6) 29 [webS m ar ti, .val (.tup (lot.map rep))] = .ok (webS m (shuA lot ar) ti) [webS m ar ti, .val (.tup (lot.map rep))] := by
  rw [run_shut_in]
  have la := hW.la
  have wi := Web_init_ok (n := n) (hW.shut lot)
  have lc0 : evE (G (n + 5)) shut_in_lc0 [webS m ar ti, .val (.tup (lot.map rep)), .dead, .dead] = .ok (.sl (.olst ((shuA lot ar).map rep))) [webS m ar ti, .val (.tup (lot.map rep)), .dead, .dead] := by
    unfold shut_in_lc0 shuA
    refine Eq.trans (lc_pure (G _) (v := .sl (.val (.tup (ar.map rep)))) (f := rep) (p := fun p : Int × Int => !decide (p.1 ∈ lot)) (h := rep) (xs := ar) ?_ ?_ ?_ ?_) rfl
    · simp (disch := first | omega | assumption | (unfold RF.sm; omega) | (unfold RF.sm64; omega) | (simp only [List.length_append, List.length_cons, List.length_nil, List.length_map]; omega) | (simp; omega) | simp)
    · rfl
    · omega
    · intro p hp
      by_cases c : p.1 ∈ lot <;> simp (disch := first | omega | assumption | (unfold RF.sm; omega) | (unfold RF.sm64; omega) | (simp only [List.length_append, List.length_cons, List.length_nil, List.length_map]; omega) | (simp; omega) | simp) [lcTurn, wipeE, c]
  generalize shuA lot ar = A at *
  simp (disch := first | omega | assumption | (unfold RF.sm; omega) | (unfold RF.sm64; omega) | (simp only [List.length_append, List.length_cons, List.length_nil, List.length_map]; omega) | (simp; omega) | simp) [lc0, wi]
theorem law_set_ok (hW : WebOk m ar ti) : sem X.t (n + 1) 39 [.val (webT m ar ti), .val (.tup (lot.map rep))] = .ok (.val (webT m (setA lot ar) (setT lot ti))) [.val (webT m ar ti), .val (.tup (lot.map rep))] := by
  rw [run__law_set]
  have la := hW.la
  have lt := hW.lt
  have lc0 : evE (G n) _law_set_lc0 [.val (webT m ar ti), .val (.tup (lot.map rep)), .dead, .dead, .dead, .dead] = .ok (.sl (.olst ((setA lot ar).map rep))) [.val (webT m ar ti), .val (.tup (lot.map rep)), .dead, .dead, .dead, .dead] := by
    unfold _law_set_lc0 setA
    refine Eq.trans (lc_pure (G _) (v := .sl (.val (.tup (ar.map rep)))) (f := rep) (p := fun p : Int × Int => !decide (p.2 ∈ lot)) (h := rep) (xs := ar) ?_ ?_ ?_ ?_) rfl
    · simp (disch := first | omega | assumption | (unfold RF.sm; omega) | (unfold RF.sm64; omega) | (simp only [List.length_append, List.length_cons, List.length_nil, List.length_map]; omega) | (simp; omega) | simp)
    · rfl
    · omega
    · intro p hp
      by_cases c : p.2 ∈ lot <;> simp (disch := first | omega | assumption | (unfold RF.sm; omega) | (unfold RF.sm64; omega) | (simp only [List.length_append, List.length_cons, List.length_nil, List.length_map]; omega) | (simp; omega) | simp) [lcTurn, wipeE, c]
  have lc1 : ∀ x : Slot, evE (G n) _law_set_lc1 [.val (webT m ar ti), .val (.tup (lot.map rep)), x, .dead, .dead, .dead] = .ok (.sl (.olst ((setT lot ti).map rep))) [.val (webT m ar ti), .val (.tup (lot.map rep)), x, .dead, .dead, .dead] := fun x => by
    unfold _law_set_lc1 setT
    refine Eq.trans (lc_pure (G _) (v := .sl (.val (.tup (ti.map rep)))) (f := rep) (p := fun p : Int × Int => !decide (p.1 ∈ lot) && !decide (p.2 ∈ lot)) (h := rep) (xs := ti) ?_ ?_ ?_ ?_) rfl
    · simp (disch := first | omega | assumption | (unfold RF.sm; omega) | (unfold RF.sm64; omega) | (simp only [List.length_append, List.length_cons, List.length_nil, List.length_map]; omega) | (simp; omega) | simp)
    · rfl
    · omega
    · intro p hp
      by_cases c : p.1 ∈ lot <;> by_cases c2 : p.2 ∈ lot <;> simp (disch := first | omega | assumption | (unfold RF.sm; omega) | (unfold RF.sm64; omega) | (simp only [List.length_append, List.length_cons, List.length_nil, List.length_map]; omega) | (simp; omega) | simp) [lcTurn, wipeE, c, c2]
  generalize setA lot ar = A at *
  generalize setT lot ti = T' at *
  refine stepE [.val (webT m ar ti), .val (.tup (lot.map rep)), .val (.tup (A.map rep)), .dead, .dead, .dead] (by simp (disch := first | omega | assumption | (unfold RF.sm; omega) | (unfold RF.sm64; omega) | (simp only [List.length_append, List.length_cons, List.length_nil, List.length_map]; omega) | (simp; omega) | simp) [lc0]) ?_
  refine stepE [.val (webT m ar ti), .val (.tup (lot.map rep)), .val (.tup (A.map rep)), .val (.tup (T'.map rep)), .dead, .dead] (by simp (disch := first | omega | assumption | (unfold RF.sm; omega) | (unfold RF.sm64; omega) | (simp only [List.length_append, List.length_cons, List.length_nil, List.length_map]; omega) | (simp; omega) | simp) [lc1]) ?_
  simp (disch := first | omega | assumption | (unfold RF.sm; omega) | (unfold RF.sm64; omega) | (simp only [List.length_append, List.length_cons, List.length_nil, List.length_map]; omega) | (simp; omega) | simp)
  rfl
theorem law_shut_ok (hW : WebOk m ar ti) : sem X.t (n + 1) 40 [.val (webT m ar ti), .val (.tup (lot.map rep))] = .ok (.val (webT m (shuA lot ar) ti)) [.val (webT m ar ti), .val (.tup (lot.map rep))] := by
  rw [run__law_shut]
  have la := hW.la
  have lc0 : evE (G n) _law_shut_lc0 [.val (webT m ar ti), .val (.tup (lot.map rep)), .dead] = .ok (.sl (.olst ((shuA lot ar).map rep))) [.val (webT m ar ti), .val (.tup (lot.map rep)), .dead] := by
    unfold _law_shut_lc0 shuA
    refine Eq.trans (lc_pure (G _) (v := .sl (.val (.tup (ar.map rep)))) (f := rep) (p := fun p : Int × Int => !decide (p.1 ∈ lot)) (h := rep) (xs := ar) ?_ ?_ ?_ ?_) rfl
    · simp (disch := first | omega | assumption | (unfold RF.sm; omega) | (unfold RF.sm64; omega) | (simp only [List.length_append, List.length_cons, List.length_nil, List.length_map]; omega) | (simp; omega) | simp)
    · rfl
    · omega
    · intro p hp
      by_cases c : p.1 ∈ lot <;> simp (disch := first | omega | assumption | (unfold RF.sm; omega) | (unfold RF.sm64; omega) | (simp only [List.length_append, List.length_cons, List.length_nil, List.length_map]; omega) | (simp; omega) | simp) [lcTurn, wipeE, c]
  generalize shuA lot ar = A at *
  simp (disch := first | omega | assumption | (unfold RF.sm; omega) | (unfold RF.sm64; omega) | (simp only [List.length_append, List.length_cons, List.length_nil, List.length_map]; omega) | (simp; omega) | simp) [lc0]
  rfl
end
end LW
end
section
set_option maxHeartbeats 1000000
namespace LW
open PySem RF
open RF.Rp (rep)
section
variable {n : Nat} {m : Int} {ar ti : List (Int × Int)} {lot : List Int}
theorem eqv_pairs (xs ys : List (Int × Int)) : eqvL (xs.map rep) (ys.map rep) = decide (xs = ys) := by
  rw [Bool.eq_iff_iff, decide_eq_true_eq]
  exact eqL_map xs ys
theorem eqv_ints (xs ys : List Int) : eqvL (xs.map rep) (ys.map rep) = decide (xs = ys) := by
  rw [Bool.eq_iff_iff, decide_eq_true_eq]
  exact eqL_map xs ys
theorem law_same_ok : sem X.t (n + 1) 43 [webS m ar ti, .val (webT m ar ti)] = .ok (.val (.bl true)) [webS m ar ti, .val (webT m ar ti)] := by
  rw [run__law_same]
  have e1 := eqv_pairs ar ar
  have e2 := eqv_pairs ti ti
  unfold webS
  simp (disch := first | omega | assumption | (unfold RF.sm; omega) | (unfold RF.sm64; omega) | (simp only [List.length_append, List.length_cons, List.length_nil, List.length_map]; omega) | (simp; omega) | simp) [e1, e2]
theorem web_eq_ok {ar' ti' : List (Int × Int)} : sem X.t (n + 1) 10 [webS m ar ti, webS m ar' ti'] = .ok (.val (.bl (decide (ar = ar') && decide (ti = ti')))) [webS m ar ti, webS m ar' ti'] := by
  rw [run_Web_eq]
  have e1 := eqv_pairs ar ar'
  have e2 := eqv_pairs ti ti'
  unfold webS
  by_cases c : ar = ar'
  · simp (disch := first | omega | assumption | (unfold RF.sm; omega) | (unfold RF.sm64; omega) | (simp only [List.length_append, List.length_cons, List.length_nil, List.length_map]; omega) | (simp; omega) | simp) [e1, e2, c]
  · simp (disch := first | omega | assumption | (unfold RF.sm; omega) | (unfold RF.sm64; omega) | (simp only [List.length_append, List.length_cons, List.length_nil, List.length_map]; omega) | (simp; omega) | simp) [e1, e2, c]
theorem web_eq_tup {xs : List PV} : sem X.t (n + 1) 10 [webS m ar ti, .val (.tup xs)] = .ok (.val (.bl false)) [webS m ar ti, .val (.tup xs)] := by
  rw [run_Web_eq]
  unfold webS
  simp (disch := first | omega | assumption | (unfold RF.sm; omega) | (unfold RF.sm64; omega) | (simp only [List.length_append, List.length_cons, List.length_nil, List.length_map]; omega) | (simp; omega) | simp)
theorem order_of_ok (hW : WebOk m ar ti) : sem X.t (n + 2) 15 [webS m ar ti] = .ok (.val (.tup ((ordL m ar m.toNat []).map rep))) [webS m ar ti] := by
  rw [run_order_of]
  have h1 := hW.m1
  have h6 := hW.m6
  have o := ordered_ok (n := n) (m := m) (ar := ar) hW.la (by omega) (by omega)
  simp (disch := first | omega | assumption | (unfold RF.sm; omega) | (unfold RF.sm64; omega) | (simp only [List.length_append, List.length_cons, List.length_nil, List.length_map]; omega) | (simp; omega) | simp) [o]
theorem rdy_len (m : Int) (ar : List (Int × Int)) (out : List Int) : (rdy m ar out).length ≤ m.toNat := by
  have := List.length_filter_le (fun one => !decide (one ∈ out) && ar.all fun p => !decide (p.2 = one) || decide (p.1 ∈ out)) (rg 0 m)
  rw [rg_len] at this
  unfold rdy
  omega
def lfE (m : Int) (ar ti : List (Int × Int)) (out : List Int) (a b c : Slot) : RF.Env := [.val (webT m ar ti), .olst (out.map rep), a, b, c, .dead]
theorem lf_lc {out : List Int} {a b : Slot} {one : Int} (hl : ar.length ≤ 1000) : evE (G n) _law_first_lc0 (lfE m ar ti out a b (.val (.int one))) = .ok (.sl (.olst ((ar.filter fun p => decide (p.2 = one)).map fun p => .bl (decide (p.1 ∈ out))))) (lfE m ar ti out a b (.val (.int one))) := by
  unfold _law_first_lc0 lfE
  refine lc_pure (G _) (v := .sl (.val (.tup (ar.map rep)))) (f := rep) (p := fun p : Int × Int => decide (p.2 = one)) (h := fun p => .bl (decide (p.1 ∈ out))) (xs := ar) ?_ ?_ ?_ ?_
  · simp (disch := first | omega | assumption | (unfold RF.sm; omega) | (unfold RF.sm64; omega) | (simp only [List.length_append, List.length_cons, List.length_nil, List.length_map]; omega) | (simp; omega) | simp)
  · rfl
  · omega
  · intro p hp
    by_cases h : p.2 = one <;> simp (disch := first | omega | assumption | (unfold RF.sm; omega) | (unfold RF.sm64; omega) | (simp only [List.length_append, List.length_cons, List.length_nil, List.length_map]; omega) | (simp; omega) | simp) [lcTurn, wipeE, h]
def rdQ (ar : List (Int × Int)) (out : List Int) (one : Int) : Bool := !decide (one ∈ out) && ar.all fun p => !decide (p.2 = one) || decide (p.1 ∈ out)
theorem lf_for1 {out : List Int} {a c : Slot} (hW : WebOk m ar ti) : Nx (fun e => ∃ c, e = lfE m ar ti out a (.olst ((rdy m ar out).map rep)) c) (evS (G n) _law_first_for1 (lfE m ar ti out a (.olst []) c)) := by
  unfold _law_first_for1
  have h1 := hW.m1
  have h6 := hW.m6
  have la := hW.la
  refine for_P (v := .sl (.val .non)) rep (rg 0 m) (by unfold lfE; simp (disch := first | omega | assumption | (unfold RF.sm; omega) | (unfold RF.sm64; omega) | (simp only [List.length_append, List.length_cons, List.length_nil, List.length_map]; omega) | (simp; omega) | simp)) (fun pre post e => ∃ c, e = lfE m ar ti out a (.olst ((pre.filter (rdQ ar out)).map rep)) c) ⟨c, rfl⟩ ?_ ?_
  · rintro pre x post e he ⟨c, rfl⟩
    have hlen := congrArg List.length he
    rw [rg_len, List.length_append, List.length_cons] at hlen
    have lf := lf_lc (n := n) (m := m) (ar := ar) (ti := ti) (out := out) (a := a) (b := .olst ((pre.filter (rdQ ar out)).map rep)) (one := x) la
    unfold lfE at lf
    have fl := List.length_filter_le (rdQ ar out) pre
    rw [List.filter_append]
    have bl : blsOf ((ar.filter fun p => decide (p.2 = x)).map fun p => PV.bl (decide (p.1 ∈ out))) = some ((ar.filter fun p => decide (p.2 = x)).map fun p => decide (p.1 ∈ out)) := blsOf_map _ fun p : Int × Int => decide (p.1 ∈ out)
    have al : ((ar.filter fun p => decide (p.2 = x)).map fun p => decide (p.1 ∈ out)).all id = ar.all fun p => !decide (p.2 = x) || decide (p.1 ∈ out) := by
      rw [List.all_map, List.all_filter]
      rfl
    have e1 : List.filter (rdQ ar out) [x] = if rdQ ar out x = true then [x] else [] := by
      rw [List.filter_cons]; rfl
    rw [e1]
    unfold rdQ at *
    generalize List.filter (fun one => !decide (one ∈ out) && ar.all fun p => !decide (p.2 = one) || decide (p.1 ∈ out)) pre = Q at *
    generalize ar.all (fun p => !decide (p.2 = x) || decide (p.1 ∈ out)) = A at *
    by_cases c1 : x ∈ out
    · exact turn_go (lfE m ar ti out a (.olst (Q.map rep)) (.val (.int x))) (by unfold lfE; simp (disch := first | omega | assumption | (unfold RF.sm; omega) | (unfold RF.sm64; omega) | (simp only [List.length_append, List.length_cons, List.length_nil, List.length_map]; omega) | (simp; omega) | simp) [c1]) rfl ⟨_, by simp [c1]; rfl⟩
    · cases A with
      | true => exact turn_go (lfE m ar ti out a (.olst ((Q ++ [x]).map rep)) (.val (.int x))) (by unfold lfE; simp (disch := first | omega | assumption | (unfold RF.sm; omega) | (unfold RF.sm64; omega) | (simp only [List.length_append, List.length_cons, List.length_nil, List.length_map]; omega) | (simp; omega) | simp) [c1, lf, bl, al]) rfl ⟨_, by simp [c1]; rfl⟩
      | false => exact turn_go (lfE m ar ti out a (.olst (Q.map rep)) (.val (.int x))) (by unfold lfE; simp (disch := first | omega | assumption | (unfold RF.sm; omega) | (unfold RF.sm64; omega) | (simp only [List.length_append, List.length_cons, List.length_nil, List.length_map]; omega) | (simp; omega) | simp) [c1, lf, bl, al]) rfl ⟨_, by simp [c1]; rfl⟩
  · rintro e ⟨c, rfl⟩
    exact .mk _ ⟨c, rfl⟩
theorem law_first_ok (hW : WebOk m ar ti) : sem X.t (n + 1) 42 [.val (webT m ar ti)] = .ok (.val (.tup ((ordL m ar m.toNat []).map rep))) [.val (webT m ar ti)] := by
  have h1 := hW.m1
  have h6 := hW.m6
  have ao := hW.ao
  have main : Nx (fun e => ∃ a b c, e = lfE m ar ti (ordL m ar m.toNat []) a b c) (evS (G n) _law_first_for0 (lfE m ar ti [] .dead .dead .dead)) := by
    unfold _law_first_for0
    refine for_P (v := .sl (.val .non)) rep (rg 0 m) (by unfold lfE; simp (disch := first | omega | assumption | (unfold RF.sm; omega) | (unfold RF.sm64; omega) | (simp only [List.length_append, List.length_cons, List.length_nil, List.length_map]; omega) | (simp; omega) | simp)) (fun pre post e => ∃ out a b c, e = lfE m ar ti out a b c ∧ out.length = pre.length ∧ ordL m ar post.length out = ordL m ar m.toNat []) ⟨[], _, _, _, rfl, rfl, by rw [rg_len]; simp⟩ ?_ ?_
    · rintro pre x post e he ⟨out, a, b, c, rfl, k1, k2⟩
      have hlen := congrArg List.length he
      rw [rg_len, List.length_append, List.length_cons] at hlen
      obtain ⟨_, k3, c', rfl⟩ := nx_elim (lf_for1 (n := n) (out := out) (a := .val (.int x)) (c := c) hW)
      unfold lfE at k3
      rw [List.length_cons, ordL] at k2
      cases z : rdy m ar out with
      | nil =>
        rw [z] at k2
        dsimp only at k2
        rw [← k2] at ao
        omega
      | cons y r =>
        rw [z] at k2 k3
        dsimp only at k2
        rw [List.map_cons] at k3
        exact turn_go (lfE m ar ti (out ++ [y]) (.val (.int x)) (.olst ((y :: r).map rep)) c') (by unfold lfE; simp (disch := first | omega | assumption | (unfold RF.sm; omega) | (unfold RF.sm64; omega) | (simp only [List.length_append, List.length_cons, List.length_nil, List.length_map]; omega) | (simp; omega) | simp) [k3]) rfl ⟨out ++ [y], _, _, _, rfl, by simp [k1], k2⟩
    · rintro e ⟨out, a, b, c, rfl, k1, k2⟩
      exact .mk _ ⟨a, b, c, by rw [← k2]; rfl⟩
  obtain ⟨_, k1, a, b, c, rfl⟩ := nx_elim main
  rw [run__law_first]
  refine stepE (lfE m ar ti [] .dead .dead .dead) (by unfold lfE; simp (disch := first | omega | assumption | (unfold RF.sm; omega) | (unfold RF.sm64; omega) | (simp only [List.length_append, List.length_cons, List.length_nil, List.length_map]; omega) | (simp; omega) | simp)) ?_
  refine stepE _ k1 ?_
  generalize ordL m ar m.toNat [] = O at *
  unfold lfE
  simp (disch := first | omega | assumption | (unfold RF.sm; omega) | (unfold RF.sm64; omega) | (simp only [List.length_append, List.length_cons, List.length_nil, List.length_map]; omega) | (simp; omega) | simp)
end
end LW
end
section
set_option maxHeartbeats 1000000
namespace RF
open PySem
open Rp (rep)
@[simp] theorem cutO_lst (xs : List PV) (l h : Option Int) : cutO (some (.lst xs)) l h = some (.olst (cutP xs l h)) := (rfl)
@[simp] theorem cutO_tup (xs : List PV) (l h : Option Int) : cutO (some (.tup xs)) l h = some (.val (.tup (cutP xs l h))) := (rfl)
theorem cutP_hi (xs : List PV) {k : Int} (h : 0 ≤ k) : cutP xs none (some k) = xs.take k.toNat := by
  obtain ⟨j, rfl⟩ : ∃ j : Nat, k = (j : Int) := ⟨k.toNat, by omega⟩
  unfold cutP
  rw [HT.sIx_none, HT.sIx_nat, List.drop_zero, Nat.sub_zero, Int.toNat_natCast]
  rcases Nat.le_total j xs.length with c | c
  · rw [Nat.min_eq_left c]
  · rw [Nat.min_eq_right c, List.take_of_length_le (Nat.le_refl _), List.take_of_length_le c]
theorem cutP_lo (xs : List PV) {k : Int} (h : 0 ≤ k) : cutP xs (some k) none = xs.drop k.toNat := by
  obtain ⟨j, rfl⟩ : ∃ j : Nat, k = (j : Int) := ⟨k.toNat, by omega⟩
  unfold cutP
  rw [HT.sIx_none, HT.sIx_nat, Int.toNat_natCast]
  rcases Nat.le_total j xs.length with c | c
  · rw [Nat.min_eq_left c, List.take_of_length_le (by rw [List.length_drop]; omega)]
  · rw [Nat.min_eq_right c, List.drop_eq_nil_of_le (Nat.le_refl _), List.drop_eq_nil_of_le c, List.take_nil]
theorem cutP_sub {xs : List PV} {l h : Option Int} {x : PV} (hx : x ∈ cutP xs l h) : x ∈ xs := List.mem_of_mem_drop (List.mem_of_mem_take hx)
end RF
end
section
set_option maxHeartbeats 1000000
namespace LW
open PySem RF
open RF.Rp (rep)
section
variable {n : Nat} {m : Int} {ar ti : List (Int × Int)} {lot : List Int}
@[simp] theorem is_variable_ok (x : PV) (h : noIns x = true) : sem X.t (n + 3) 11 [webS m ar ti, .val x] = .ok (.val (.bl (intP (fun i => decide (0 ≤ i) && decide (i < m)) x))) [webS m ar ti, .val x] := by
  rw [run_is_variable]
  simp (disch := first | omega | assumption | (unfold RF.sm; omega) | (unfold RF.sm64; omega) | (simp only [List.length_append, List.length_cons, List.length_nil, List.length_map]; omega) | (simp; omega) | simp) [h]
theorem need_variable_ok {v : Int} (hv : 0 ≤ v ∧ v < m) : sem X.t (n + 4) 12 [webS m ar ti, .val (.int v)] = .ok (.val .non) [webS m ar ti, .val (.int v)] := by
  rw [run_need_variable]
  have iv := is_variable_ok (n := n) (m := m) (ar := ar) (ti := ti) (.int v) rfl
  simp (disch := first | omega | assumption | (unfold RF.sm; omega) | (unfold RF.sm64; omega) | (simp only [List.length_append, List.length_cons, List.length_nil, List.length_map]; omega) | (simp; omega) | simp) [iv, intP, hv.1, hv.2]
theorem parents_ok (hW : WebOk m ar ti) {v : Int} (hv : 0 ≤ v ∧ v < m) : sem X.t (n + 5) 17 [webS m ar ti, .val (.int v)] = .ok (.val (.tup ((par ar v).map rep))) [webS m ar ti, .val (.int v)] := by
  rw [run_parents]
  have nv := need_variable_ok (n := n) (ar := ar) (ti := ti) hv
  have po := parents_of_ok (n := n + 3) (m := m) (ar := ar) (ti := ti) v hW.la
  simp (disch := first | omega | assumption | (unfold RF.sm; omega) | (unfold RF.sm64; omega) | (simp only [List.length_append, List.length_cons, List.length_nil, List.length_map]; omega) | (simp; omega) | simp) [nv, po]
theorem lot_k {k : Nat} {ds : List Int} (h1 : 0 ≤ m) (h6 : m ≤ 6) (hd : nk (k + m.toNat) ds) : ∃ (ds' lot : List Int), sem X.t (n + 2) 35 [.olst (ds.map rep), .val (.int m)] = .ok (.val (.tup (lot.map rep))) [.olst (ds'.map rep), .val (.int m)] ∧ nk k ds' ∧ LotOk m lot := by
  have lc : ∃ (ds' lot : List Int), evE (G (n + 1)) _law_lot_lc0 [.olst (ds.map rep), .val (.int m), .dead] = .ok (.sl (.olst (lot.map rep))) [.olst (ds'.map rep), .val (.int m), .dead] ∧ nk k ds' ∧ LotOk m lot := by
    unfold _law_lot_lc0
    refine lc_rule (G (n + 1)) (e := [.olst (ds.map rep), .val (.int m), .dead]) (v := .sl (.val .non)) rep (rg 0 m) (fun acc post e1 => ∃ (ds' gv pre : List Int), e1 = [.olst (ds'.map rep), .val (.int m), .dead] ∧ nk (k + post.length) ds' ∧ acc = gv.map rep ∧ pre ++ post = rg 0 m ∧ gv.Sublist pre) (fun r => ∃ (ds' lot : List Int), r = .ok (.sl (.olst (lot.map rep))) [.olst (ds'.map rep), .val (.int m), .dead] ∧ nk k ds' ∧ LotOk m lot) ?_ ?_ ?_ ⟨ds, [], [], rfl, by rw [rg_len]; simpa using hd, rfl, rfl, .slnil⟩ ?_ ?_
    · simp (disch := first | omega | assumption | (unfold RF.sm; omega) | (unfold RF.sm64; omega) | (simp only [List.length_append, List.length_cons, List.length_nil, List.length_map]; omega) | (simp; omega) | simp)
    · rfl
    · rw [rg_len]; omega
    · rintro acc x post e1 ⟨ds', gv, pre, rfl, k1, rfl, k2, k3⟩
      obtain ⟨v, ds2, t1, t2, t3, t4⟩ := take_k (n := n) (k := k + post.length) k1 (m := 2) (by omega)
      by_cases c : v = 1
      · exact ⟨some (.int x), [.olst (ds2.map rep), .val (.int m), .dead], by simp (disch := first | omega | assumption | (unfold RF.sm; omega) | (unfold RF.sm64; omega) | (simp only [List.length_append, List.length_cons, List.length_nil, List.length_map]; omega) | (simp; omega) | simp) [lcTurn, wipeE, t1, c], rfl, ds2, gv ++ [x], pre ++ [x], rfl, t4, by simp, by simpa using k2, k3.append (List.Sublist.refl _)⟩
      · exact ⟨none, [.olst (ds2.map rep), .val (.int m), .dead], by simp (disch := first | omega | assumption | (unfold RF.sm; omega) | (unfold RF.sm64; omega) | (simp only [List.length_append, List.length_cons, List.length_nil, List.length_map]; omega) | (simp; omega) | simp) [lcTurn, wipeE, t1, c], rfl, ds2, gv, pre ++ [x], rfl, t4, by simp, by simpa using k2, k3.trans (List.sublist_append_left _ _)⟩
    · rintro acc e1 ⟨ds', gv, pre, rfl, k1, rfl, k2, k3⟩
      rw [List.append_nil] at k2
      subst k2
      refine ⟨ds', gv, rfl, by simpa using k1, fun v hv => rg_mem.mp (k3.subset hv), (rg_asc 0 m).sublist k3⟩
  obtain ⟨ds', lot, k1, k2, k3⟩ := lc
  refine ⟨ds', lot, ?_, k2, k3⟩
  rw [run__law_lot]
  have := few_m k3.nd k3.bd
  simp (disch := first | omega | assumption | (unfold RF.sm; omega) | (unfold RF.sm64; omega) | (simp only [List.length_append, List.length_cons, List.length_nil, List.length_map]; omega) | (simp; omega) | simp) [k1]
theorem law_par_lc {sc a b c d e : Slot} {v : Int} (hl : ar.length ≤ 1000) : evE (G n) law_lc0 [sc, a, b, .val (webT m ar ti), c, .val (.int v), d, e, .dead] = .ok (.sl (.olst ((par ar v).map rep))) [sc, a, b, .val (webT m ar ti), c, .val (.int v), d, e, .dead] := by
  unfold law_lc0
  refine Eq.trans (lc_pure (G _) (v := .sl (.val (.tup (ar.map rep)))) (f := rep) (p := fun p : Int × Int => decide (p.2 = v)) (h := fun p => .int p.1) (xs := ar) ?_ ?_ ?_ ?_) ?_
  · simp (disch := first | omega | assumption | (unfold RF.sm; omega) | (unfold RF.sm64; omega) | (simp only [List.length_append, List.length_cons, List.length_nil, List.length_map]; omega) | (simp; omega) | simp)
  · rfl
  · omega
  · intro p hp
    by_cases h : p.2 = v <;> simp (disch := first | omega | assumption | (unfold RF.sm; omega) | (unfold RF.sm64; omega) | (simp only [List.length_append, List.length_cons, List.length_nil, List.length_map]; omega) | (simp; omega) | simp) [lcTurn, wipeE, h]
  · unfold par; rw [List.map_map]; rfl
end
section
variable {n : Nat} {m : Int} {ar ti : List (Int × Int)} {lot : List Int}
theorem set_web_ok (hW : WebOk m ar ti) (hl : LotOk m lot) : sem X.t (n + 7) 28 [webS m ar ti, .val (.tup (lot.map rep))] = .ok (webS m (setA lot ar) (setT lot ti)) [webS m ar ti, .val (.tup (lot.map rep))] := by
  rw [run_set_web]
  have nl := need_lot_ok (n := n + 2) (ar := ar) (ti := ti) hl hW.m6
  have si := set_in_ok (n := n) (lot := lot) hW
  simp (disch := first | omega | assumption | (unfold RF.sm; omega) | (unfold RF.sm64; omega) | (simp only [List.length_append, List.length_cons, List.length_nil, List.length_map]; omega) | (simp; omega) | simp) [nl, si]
theorem shut_web_ok (hW : WebOk m ar ti) (hl : LotOk m lot) : sem X.t (n + 7) 30 [webS m ar ti, .val (.tup (lot.map rep))] = .ok (webS m (shuA lot ar) ti) [webS m ar ti, .val (.tup (lot.map rep))] := by
  rw [run_shut_web]
  have nl := need_lot_ok (n := n + 2) (ar := ar) (ti := ti) hl hW.m6
  have si := shut_in_ok (n := n) (lot := lot) hW
  simp (disch := first | omega | assumption | (unfold RF.sm; omega) | (unfold RF.sm64; omega) | (simp only [List.length_append, List.length_cons, List.length_nil, List.length_map]; omega) | (simp; omega) | simp) [nl, si]
end
theorem tri_le : ∀ t ≤ 6, tri t ≤ 30 := by decide
def lwE (sc : Slot) (ds : List Int) (m : Int) (ar ti : List (Int × Int)) (lot : List Int) (one : Int) (mine ev : Slot) : RF.Env := [sc, .olst (ds.map rep), .val (.int m), .val (webT m ar ti), .val (.tup (lot.map rep)), .val (.int one), mine, ev, .dead]
theorem law_ok {n : Nat} {ns : List Int} (hn : ns.length ≤ 63) : ∃ bs, sem X.t (n + 8) 44 [.val (.xls (ns.map PV.int))] = .ok (.val (.bl true)) bs := by
  suffices k : Rt (fun s _ => s = .val (.bl true)) (sem X.t (n + 8) 44 [.val (.xls (ns.map rep))]) by
    obtain ⟨s, bs, h, rfl⟩ := rt_elim k
    exact ⟨bs, h⟩
  rw [run_law]
  obtain ⟨ds, d1, d2⟩ := draws_k (n := n + 6) (m := 60) hn (by omega) (by omega)
  obtain ⟨v1, ds1, e1, e2, e3, e4⟩ := take_k (n := n + 6) (k := 59) d2 (m := 6) (by omega)
  obtain ⟨v2, ds2, f1, f2, f3, f4⟩ := take_k (n := n + 6) (k := 58) e4 (m := 8) (by omega)
  obtain ⟨v3, ds3, g1, g2, g3, g4⟩ := take_k (n := n + 6) (k := 57) f4 (m := 6) (by omega)
  have tl := tri_le (1 + v1).toNat (by omega)
  obtain ⟨ds4, ar, ti, w1, w2, hW⟩ := web_k (n := n + 4) (k := 21) (m := 1 + v1) (th := 1 + v2) (td := v3) (g4.mono (by omega)) (by omega) (by omega)
  obtain ⟨ds5, lot, l1, l2, hl⟩ := lot_k (n := n + 5) (k := 15) (m := 1 + v1) (by omega) (by omega) (w2.mono (by omega))
  obtain ⟨one, ds6, o1, o2, o3, o4⟩ := take_k (n := n + 6) (k := 14) l2 (m := 1 + v1) (by omega)
  change _ = CR.ok (.val (webT (1 + v1) ar ti)) _ at w1
  have h1 := hW.m1
  have h6 := hW.m6
  have la := hW.la
  have hw := Web_init_ok (n := n + 2) hW
  have hw2 := Web_init_ok (n := n + 2) (hW.sub (ar' := ar.tail) (List.tail_sublist _) (List.Sublist.refl _))
  refine seq_step [.val (.xls (ns.map rep)), .olst (ds.map rep), .dead, .dead, .dead, .dead, .dead, .dead, .dead] (by simp (disch := first | omega | assumption | (unfold RF.sm; omega) | (unfold RF.sm64; omega) | (simp only [List.length_append, List.length_cons, List.length_nil, List.length_map]; omega) | (simp; omega) | simp) [d1]) ?_
  refine seq_step [.val (.xls (ns.map rep)), .olst (ds1.map rep), .val (.int (1 + v1)), .dead, .dead, .dead, .dead, .dead, .dead] (by simp (disch := first | omega | assumption | (unfold RF.sm; omega) | (unfold RF.sm64; omega) | (simp only [List.length_append, List.length_cons, List.length_nil, List.length_map]; omega) | (simp; omega) | simp) [e1]) ?_
  refine seq_step [.val (.xls (ns.map rep)), .olst (ds4.map rep), .val (.int (1 + v1)), .val (webT (1 + v1) ar ti), .dead, .dead, .dead, .dead, .dead] (by simp (disch := first | omega | assumption | (unfold RF.sm; omega) | (unfold RF.sm64; omega) | (simp only [List.length_append, List.length_cons, List.length_nil, List.length_map]; omega) | (simp; omega) | simp) [f1, g1, w1]) ?_
  generalize hm : 1 + v1 = m at *
  refine seq_step [.val (.xls (ns.map rep)), .olst (ds5.map rep), .val (.int m), .val (webT m ar ti), .val (.tup (lot.map rep)), .dead, .dead, .dead, .dead] (by simp (disch := first | omega | assumption | (unfold RF.sm; omega) | (unfold RF.sm64; omega) | (simp only [List.length_append, List.length_cons, List.length_nil, List.length_map]; omega) | (simp; omega) | simp) [l1]) ?_
  refine seq_step (lwE (.val (.xls (ns.map rep))) ds6 m ar ti lot one .dead .dead) (by unfold lwE; simp (disch := first | omega | assumption | (unfold RF.sm; omega) | (unfold RF.sm64; omega) | (simp only [List.length_append, List.length_cons, List.length_nil, List.length_map]; omega) | (simp; omega) | simp) [o1]) ?_
  refine seq_step (lwE (.val (.xls (ns.map rep))) ds6 m ar ti lot one (webS m ar ti) .dead) (by unfold lwE; simp (disch := first | omega | assumption | (unfold RF.sm; omega) | (unfold RF.sm64; omega) | (simp only [List.length_append, List.length_cons, List.length_nil, List.length_map]; omega) | (simp; omega) | simp) [hw]) ?_
  refine seq_step (lwE (.val (.xls (ns.map rep))) ds6 m ar ti lot one (webS m ar ti) (.val (.tup ((rg 0 m).map rep)))) (by unfold lwE webS; simp (disch := first | omega | assumption | (unfold RF.sm; omega) | (unfold RF.sm64; omega) | (simp only [List.length_append, List.length_cons, List.length_nil, List.length_map]; omega) | (simp; omega) | simp)) ?_
  have oo := order_of_ok (n := n + 5) hW
  have lf := law_first_ok (n := n + 6) hW
  have eo := eqv_ints (ordL m ar m.toNat []) (ordL m ar m.toNat [])
  refine seq_step (lwE (.val (.xls (ns.map rep))) ds6 m ar ti lot one (webS m ar ti) (.val (.tup ((rg 0 m).map rep)))) ?_ ?_
  · generalize ordL m ar m.toNat [] = O at *
    unfold lwE; simp (disch := first | omega | assumption | (unfold RF.sm; omega) | (unfold RF.sm64; omega) | (simp only [List.length_append, List.length_cons, List.length_nil, List.length_map]; omega) | (simp; omega) | simp) [oo, lf, eo]
  have po := parents_ok (n := n + 2) hW ⟨o2, o3⟩
  have pl := law_par_lc (n := n + 7) (sc := .val (.xls (ns.map rep))) (a := .olst (ds6.map rep)) (b := .val (.int m)) (c := .val (.tup (lot.map rep))) (d := webS m ar ti) (e := .val (.tup ((rg 0 m).map rep))) (m := m) (ti := ti) (v := one) la
  have eo := eqv_ints (par ar one) (par ar one)
  have pn := par_len ar one
  refine seq_step (lwE (.val (.xls (ns.map rep))) ds6 m ar ti lot one (webS m ar ti) (.val (.tup ((rg 0 m).map rep)))) ?_ ?_
  · generalize par ar one = O at *
    unfold lwE; simp (disch := first | omega | assumption | (unfold RF.sm; omega) | (unfold RF.sm64; omega) | (simp only [List.length_append, List.length_cons, List.length_nil, List.length_map]; omega) | (simp; omega) | simp) [po, pl, eo]
  obtain ⟨L1, a1, a2, a3⟩ := above_ok (n := n + 2) hW hl
  obtain ⟨L2, b1, b2, b3⟩ := law_above_ok (n := n + 6) (ti := ti) h1 h6 la hl (lot_rg m)
  obtain ⟨L3, c1, c2, c3⟩ := below_ok (n := n + 2) hW hl
  obtain ⟨L4, p1, p2, p3⟩ := law_below_ok (n := n + 5) hW hl
  have q1 : L1 = L2 := a2.ext b2 fun v => by rw [a3, b3]
  have q2 : L3 = L4 := c2.ext p2 fun v => by rw [c3, p3]
  subst q1
  subst q2
  have x1 := eqv_ints L1 L1
  have x2 := eqv_ints L3 L3
  refine seq_step (lwE (.val (.xls (ns.map rep))) ds6 m ar ti lot one (webS m ar ti) (.val (.tup ((rg 0 m).map rep)))) (by unfold lwE; simp (disch := first | omega | assumption | (unfold RF.sm; omega) | (unfold RF.sm64; omega) | (simp only [List.length_append, List.length_cons, List.length_nil, List.length_map]; omega) | (simp; omega) | simp) [a1, b1, c1, p1, x1, x2]) ?_
  have di := districts_ok (n := n + 2) hW hl
  have ld := law_districts_ok (n := n + 5) hW hl
  have x3 : eqvL ((disS hW hl).map rep) ((disS hW hl).map rep) = true := (eqL_map _ _).mpr rfl
  have x4 := all_ls (disS hW hl)
  refine seq_step (lwE (.val (.xls (ns.map rep))) ds6 m ar ti lot one (webS m ar ti) (.val (.tup ((rg 0 m).map rep)))) ?_ ?_
  · generalize disS hW hl = O at *
    unfold lwE; simp (disch := first | omega | assumption | (unfold RF.sm; omega) | (unfold RF.sm64; omega) | (simp only [List.length_append, List.length_cons, List.length_nil, List.length_map]; omega) | (simp; omega) | simp) [di, ld, x3, x4]
  have sw := set_web_ok (n := n) hW hl
  have ls := law_set_ok (n := n + 6) (lot := lot) hW
  have sm1 := law_same_ok (n := n + 6) (m := m) (ar := setA lot ar) (ti := setT lot ti)
  refine seq_step (lwE (.val (.xls (ns.map rep))) ds6 m ar ti lot one (webS m ar ti) (.val (.tup ((rg 0 m).map rep)))) ?_ ?_
  · generalize setA lot ar = A at *
    generalize setT lot ti = T' at *
    unfold lwE; simp (disch := first | omega | assumption | (unfold RF.sm; omega) | (unfold RF.sm64; omega) | (simp only [List.length_append, List.length_cons, List.length_nil, List.length_map]; omega) | (simp; omega) | simp) [sw, ls, sm1]
  have sw := shut_web_ok (n := n) hW hl
  have ls := law_shut_ok (n := n + 6) (lot := lot) hW
  have sm1 := law_same_ok (n := n + 6) (m := m) (ar := shuA lot ar) (ti := ti)
  have sm2 := law_same_ok (n := n + 6) (m := m) (ar := ar) (ti := ti)
  refine seq_step (lwE (.val (.xls (ns.map rep))) ds6 m ar ti lot one (webS m ar ti) (.val (.tup ((rg 0 m).map rep)))) ?_ ?_
  · generalize shuA lot ar = A at *
    unfold lwE; simp (disch := first | omega | assumption | (unfold RF.sm; omega) | (unfold RF.sm64; omega) | (simp only [List.length_append, List.length_cons, List.length_nil, List.length_map]; omega) | (simp; omega) | simp) [sw, ls, sm1, sm2]
  have q1 := web_eq_ok (n := n + 6) (m := m) (ar := ar) (ti := ti) (ar' := ar.tail) (ti' := ti)
  have q2 := web_eq_ok (n := n + 6) (m := m) (ar := ar) (ti := ti) (ar' := ar) (ti' := ti)
  have q3 := web_eq_tup (n := n + 6) (m := m) (ar := ar) (ti := ti) (xs := [.int m, .tup (ar.map rep), .tup (ti.map rep)])
  refine seq_step (lwE (.val (.xls (ns.map rep))) ds6 m ar ti lot one (webS m ar ti) (.val (.tup ((rg 0 m).map rep)))) ?_ ?_
  · cases z : ar with
    | nil => rw [z] at *; unfold lwE; simp (disch := first | omega | assumption | (unfold RF.sm; omega) | (unfold RF.sm64; omega) | (simp only [List.length_append, List.length_cons, List.length_nil, List.length_map]; omega) | (simp; omega) | simp)
    | cons p r =>
      have ne : decide (ar = ar.tail) = false := by
        rw [decide_eq_false_iff_not]
        intro e
        have := congrArg List.length e
        rw [List.length_tail, z, List.length_cons] at this
        omega
      rw [ne] at q1
      rw [← z]
      have e1 : (ar.map rep).isEmpty = false := by rw [z]; rfl
      unfold lwE
      unfold webS at q1 hw2 ⊢
      simp (disch := first | omega | assumption | (unfold RF.sm; omega) | (unfold RF.sm64; omega) | (simp only [List.length_append, List.length_cons, List.length_nil, List.length_map]; omega) | (simp; omega) | simp) [q1, hw2, e1, cutP_lo, ← List.map_tail]
  unfold lwE
  unfold webS at q2 q3 hw ⊢
  refine rt_of _ _ (by (simp (disch := first | omega | assumption | (unfold RF.sm; omega) | (unfold RF.sm64; omega) | (simp only [List.length_append, List.length_cons, List.length_nil, List.length_map]; omega) | (simp; omega) | simp) [q2, q3, hw]; first | done | rfl | exact ⟨rfl, rfl⟩)) rfl
end LW
end
theorem PySem.Challenge.cw_setnotseen_k00_webs_holds : PySem.Challenge.rw_setnotseen_k00_webs.Holds := by
  exact law_top 8 ⟨rfl, by decide, by decide⟩ fun ns h => LW.law_ok (n := 0) h
