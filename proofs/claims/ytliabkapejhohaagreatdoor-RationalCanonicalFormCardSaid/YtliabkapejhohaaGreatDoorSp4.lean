/- MERGED by merge.py: SpL SpR SpS SpU -/
import Derived.Test.YtliabkapejhohaaGreatDoorSx2
import Derived.Test.YtliabkapejhohaaGreatDoorSpN
import Derived.Test.YtliabkapejhohaaGreatDoorTr2
import Derived.Test.YtliabkapejhohaaGreatDoorNatE
import Derived.Test.YtliabkapejhohaaGreatDoorSpI
import Derived.Test.YtliabkapejhohaaGreatDoorSp3
namespace Go.Proofs.YtliabkapejhohaaGreatDoor.Sp
open Go Go.RowKit Go.Proofs.YtliabkapejhohaaGreatDoorW.PrintWords Go.Proofs.YtliabkapejhohaaGreatDoor.Sx Go.Proofs.YtliabkapejhohaaGreatDoor.NatA Go.Proofs.YtliabkapejhohaaGreatDoor.NatB
section
variable {P : Program} {C : Cf} {m : Nat} {L : List T} {env r : List D}
theorem go_T {p : Pu} {xs : List (V1 S)} {n : Nat} {t e : T} {vs : List (V1 D)} {q : Prop} [Decidable q] (hq : q) (hv : vals (V1.val (S.val env)) xs = some vs) (hp : p.run P vs = some (b_ (decide q))) (hn : (env ++ [b_ true])[n]? = some (b_ true)) (h : t.run P C m L (env ++ [b_ true]) = some r) : (T.pure p xs (T.ite n t e)).run P C m L env = some r := by
 rw [decide_eq_true hq] at hp
 exact go_pure hv hp (go_true hn h)
theorem go_F {p : Pu} {xs : List (V1 S)} {n : Nat} {t e : T} {vs : List (V1 D)} {q : Prop} [Decidable q] (hq : ¬ q) (hv : vals (V1.val (S.val env)) xs = some vs) (hp : p.run P vs = some (b_ (decide q))) (hn : (env ++ [b_ false])[n]? = some (b_ false)) (h : e.run P C m L (env ++ [b_ false]) = some r) : (T.pure p xs (T.ite n t e)).run P C m L env = some r := by
 rw [decide_eq_false hq] at hp
 exact go_pure hv hp (go_false hn h)
def Rn (P : Program) (C : Cf) (t : T) (L : List T) (env : List D) (r : List D) : Prop := ∃ m, t.run P C m L env = some r
theorem rr {ss : List S} (h : vals (S.val env) ss = some r := by kernel_rfl) : Rn P C (T.ret ss) L env r := ⟨0, go_ret h⟩
theorem rp {p : Pu} {xs : List (V1 S)} {k : T} {vs : List (V1 D)} {d : D} (hp : p.run P vs = some d) (h : Rn P C k L (env ++ [d]) r) (hv : vals (V1.val (S.val env)) xs = some vs := by kernel_rfl) : Rn P C (T.pure p xs k) L env r := h.imp fun _ h => go_pure hv hp h
theorem rc {f : FuncId} {ss : List S} {n : Nat} {k : T} {ds rs : List D} (F : Fct) (hc : F ds = some rs) (h : Rn P C k L (env ++ rs) r) (hF : C f = F := by rfl) (hv : vals (S.val env) ss = some ds := by kernel_rfl) (hl : rs.length = n := by rfl) : Rn P C (T.call f ss n k) L env r := h.imp fun _ h => go_call F hF hv hc hl h
theorem rT {p : Pu} {xs : List (V1 S)} {n : Nat} {t e : T} {vs : List (V1 D)} {q : Prop} [Decidable q] (hq : q) (hp : p.run P vs = some (b_ (decide q))) (h : Rn P C t L (env ++ [b_ true]) r) (hv : vals (V1.val (S.val env)) xs = some vs := by kernel_rfl) (hn : (env ++ [b_ true])[n]? = some (b_ true) := by kernel_rfl) : Rn P C (T.pure p xs (T.ite n t e)) L env r := h.imp fun _ h => go_T hq hv hp hn h
theorem rF {p : Pu} {xs : List (V1 S)} {n : Nat} {t e : T} {vs : List (V1 D)} {q : Prop} [Decidable q] (hq : ¬ q) (hp : p.run P vs = some (b_ (decide q))) (h : Rn P C e L (env ++ [b_ false]) r) (hv : vals (V1.val (S.val env)) xs = some vs := by kernel_rfl) (hn : (env ++ [b_ false])[n]? = some (b_ false) := by kernel_rfl) : Rn P C (T.pure p xs (T.ite n t e)) L env r := h.imp fun _ h => go_F hq hv hp hn h
theorem rl {d : Nat} {init : List S} {body : T} {env' : List D} {L' : List T} (h : Rn P C body L' env' r) (hv : (vals (S.val env) init).map (env ++ ·) = some env' := by kernel_rfl) (hL : L.take d ++ [body] = L' := by rfl) : Rn P C (T.loop d init body) L env r := by
 obtain ⟨vs, h1, rfl⟩ := Option.map_eq_some_iff.1 hv
 subst hL
 exact h.imp fun _ h => go_loop h1 h
theorem ra {d n : Nat} {ss : List S} {env' : List D} {L' : List T} {b : T} (h : Rn P C b L' env' r) (hv : (vals (S.val env) ss).map (env.take n ++ ·) = some env' := by kernel_rfl) (hb : L[d]? = some b := by rfl) (hL : L.take (d + 1) = L' := by rfl) : Rn P C (T.again d n ss) L env r := by
 obtain ⟨vs, h1, rfl⟩ := Option.map_eq_some_iff.1 hv
 subst hL
 exact h.elim fun m h => ⟨m + 1, go_again h1 hb h⟩
abbrev y_ (x : Int) : D := .v (.int .u8 x)
abbrev w_ (x : Int) : D := .v (.int .u64 x)
def Bl (l : List Int) : D := .l l.length (l.map y_)
def Il (l : List Int) : D := .l l.length (l.map i_)
theorem wi {i : Int} (h : -1099511627776 ≤ i ∧ i ≤ 1099511627776) : IntKind.i64.wrap i = i := by rw [IntKind.wrap_i64]; omega
theorem pu_ad (t : TypeId) (kk : Bool) (a b : Int) (h : -1099511627776 ≤ a + b ∧ a + b ≤ 1099511627776) : (Pu.bin .add t kk).run P [.one (i_ a), .one (i_ b)] = some (i_ (a + b)) := by rw [pu_add_i, wi h]
theorem pu_sb (t : TypeId) (kk : Bool) (a b : Int) (h : -1099511627776 ≤ a - b ∧ a - b ≤ 1099511627776) : (Pu.bin .sub t kk).run P [.one (i_ a), .one (i_ b)] = some (i_ (a - b)) := by rw [pu_sub_i, wi h]
theorem pu_ml (t : TypeId) (kk : Bool) (a b : Int) (h : -1099511627776 ≤ a * b ∧ a * b ≤ 1099511627776) : (Pu.bin .mul t kk).run P [.one (i_ a), .one (i_ b)] = some (i_ (a * b)) := by rw [pu_mul_i, wi h]
theorem q_div (op : BinOp) (ho : op = .quo ∨ op = .rem) (t : TypeId) (k : IntKind) (a b : Int) (hb : 0 < b) {v : Int} (hv : (op = .quo → v = k.wrap (a.tdiv b)) ∧ (op = .rem → v = a.tmod b)) : quiet P (binOp op t (.int k a) (.int k b)) = some (.int k v) := by
 have h0 : ¬ b = 0 := by omega
 rcases ho with rfl | rfl
 ·rw [hv.1 rfl]
  show quiet P (if k ≠ k then _ else Op.intDiv .quo k a b) = _
  rw [if_neg (by simp)]
  unfold Op.intDiv
  rw [if_neg h0]
  rfl
 ·rw [hv.2 rfl]
  show quiet P (if k ≠ k then _ else Op.intDiv .rem k a b) = _
  rw [if_neg (by simp)]
  unfold Op.intDiv
  rw [if_neg h0]
  rfl
theorem pu_qu (t : TypeId) (kk : Bool) (a b : Int) (ha : 0 ≤ a ∧ a ≤ 1099511627776) (hb : 0 < b) : (Pu.bin .quo t kk).run P [.one (i_ a), .one (i_ b)] = some (i_ (a / b)) := by
 refine pu_bin .quo t kk .i64 a b (q_div .quo (.inl rfl) t .i64 a b hb ⟨fun _ => ?_, (fun h => (by cases h))⟩) rfl
 rw [tdiv_nat ha.1, wi]
 have h1 := Int.ediv_nonneg ha.1 (Int.le_of_lt hb)
 have h2 := Int.ediv_le_self b ha.1
 omega
theorem pu_rm (t : TypeId) (kk : Bool) (k : IntKind) (a b : Int) (ha : 0 ≤ a) (hb : 0 < b) : (Pu.bin .rem t kk).run P [.one (.v (.int k a)), .one (.v (.int k b))] = some (.v (.int k (a % b))) := by
 refine pu_bin .rem t kk k a b (q_div .rem (.inr rfl) t k a b hb ⟨(fun h => (by cases h)), fun _ => ?_⟩) rfl
 rw [tmod_nat ha]
theorem pu_qw (t : TypeId) (kk : Bool) (a b : Int) (ha : 0 ≤ a ∧ a < 18446744073709551616) (hb : 0 < b) : (Pu.bin .quo t kk).run P [.one (w_ a), .one (w_ b)] = some (w_ (a / b)) := by
 refine pu_bin .quo t kk .u64 a b (q_div .quo (.inl rfl) t .u64 a b hb ⟨fun _ => ?_, (fun h => (by cases h))⟩) rfl
 have h1 := Int.ediv_nonneg ha.1 (Int.le_of_lt hb)
 have h2 := Int.ediv_le_self b ha.1
 rw [tdiv_nat ha.1, IntKind.wrap_u64]
 omega
theorem bt_get (a : ByteArray) (i : Nat) (h : i < a.size) : (a[i].toNat : Int) = rd (bytesOf a) i := by
 rw [rd_bytesOf]
 exact bt_at a i h
theorem pu_ix {t : TypeId} (ht : P.underlying t = some .string) (a : ByteArray) (i : Nat) (h : i < a.size) (k : IntKind) : (Pu.idx t).run P [.one (s_ a), .one (.v (.int k i))] = some (y_ (rd (bytesOf a) i)) := by
 rw [pu_idx_s ht a i h, ← bt_get a i h]
theorem u8_wrap {x : Int} (h : 0 ≤ x ∧ x < 256) : IntKind.u8.wrap x = x := by
 have : IntKind.u8.wrap x = x % 256 := by simp [IntKind.wrap, IntKind.bits, IntKind.signed]
 rw [this]
 omega
theorem pu_cv8 {src dst : TypeId} (hd : P.underlying dst = some (.int .u8)) (k : IntKind) (n : Int) {d : TypeDesc} (hs : P.underlying src = some d) (h : 0 ≤ n ∧ n < 256) : (Pu.conv src dst).run P [.one (.v (.int k n))] = some (y_ n) := by rw [pu_conv hd k n hs, u8_wrap h]
theorem pu_cvi {src dst : TypeId} (hd : P.underlying dst = some (.int .i64)) (k : IntKind) (n : Int) {d : TypeDesc} (hs : P.underlying src = some d) (h : 0 ≤ n ∧ n < 256) : (Pu.conv src dst).run P [.one (.v (.int k n))] = some (i_ n) := by rw [pu_conv hd k n hs, wi (by omega)]
theorem pu_nes (t : TypeId) (k : Bool) (a b : ByteArray) : (Pu.bin .neq t k).run P [.one (s_ a), .one (s_ b)] = some (b_ (decide (¬ a = b))) := by rw [pu_ne_s, decide_not]
theorem pu_nil : Pu.lnil.run P [] = some (Bl []) := rfl
theorem roomB_ok {n b : Nat} (h : n * b ≤ 140737488355328) (h2 : n ≤ 140737488355328) : roomB n b = true := by
 unfold roomB
 rw [decide_eq_true h, decide_eq_true h2]
 rfl
theorem pu_app (l : List Int) (x : Int) (h : l.length ≤ 1099511627776) : (Pu.lapp 1 1 1).run P [.one (Bl l), .agg [y_ x]] = some (Bl (l ++ [x])) := by
 show (if ([y_ x] : List D).length = 1 * 1 ∧ roomB (l.length + 1) 1 = true then some (D.l (l.length + 1) (l.map y_ ++ [y_ x])) else none) = _
 rw [if_pos ⟨rfl, roomB_ok (by omega) (by omega)⟩]
 unfold Bl
 rw [List.length_append, List.map_append]
 rfl
theorem vals_byte : ∀ l : List Int, vals byteD (l.map y_) = some l
 | [] => rfl
 | x :: l => by
  show (some x).bind (fun v => (vals byteD (l.map y_)).bind fun vs => some (v :: vs)) = _
  rw [vals_byte l]
  rfl
theorem str_of (l : List Int) : strOf l = strOfNums l := by
 have key : ∀ (l : List Int) (r : ByteArray), l.foldl (fun r n => r.push (UInt8.ofNat n.toNat)) r = ⟨r.data ++ (l.map fun n => UInt8.ofNat n.toNat).toArray⟩ := by
  intro l
  induction l with
  | nil => intro r; simp
  | cons x l ih =>
   intro r
   rw [List.foldl_cons, ih]
   congr 1
   apply Array.ext'
   simp [ByteArray.push]
 unfold strOf strOfNums
 rw [key]
 congr 1
 apply Array.ext'
 simp [ByteArray.empty, ByteArray.emptyWithCapacity]
 rfl
theorem pu_str (l : List Int) : Pu.lstr.run P [.one (Bl l)] = some (s_ (strOfNums l)) := by
 show (if (l.map y_).length = l.length then (vals byteD (l.map y_)).map fun ns => D.v (.string (strOf ns)) else none) = _
 rw [if_pos (List.length_map ..), vals_byte, Option.map_some, str_of]
theorem pu_bstr (l : List Int) : Pu.lbstr.run P [.agg (l.map y_)] = some (s_ (strOfNums l)) := by
 show (vals byteD (l.map y_)).map (fun ns => D.v (.string (strOf ns))) = _
 rw [vals_byte, Option.map_some, str_of]
theorem pu_llen (l : List Int) : Pu.llen.run P [.one (Il l)] = some (i_ l.length) := rfl
theorem lchk_of {n : Nat} {ds : List D} (hl : ds ≠ []) {i : Nat} (h : i < n) (k : IntKind) : Pu.lchk.run P [.one (.l n ds), .one (.v (.int k i))] = some (.v (.int k i)) := by
 cases ds with
 | nil => exact absurd rfl hl
 | cons d ds =>
  show (if 0 ≤ (i : Int) ∧ (i : Int) < n then some (D.v (.int k i)) else none) = _
  rw [if_pos ⟨Int.natCast_nonneg _, by omega⟩]
theorem pu_chk (f : Int → D) (l : List Int) (i : Nat) (h : i < l.length) (k : IntKind) : Pu.lchk.run P [.one (.l l.length (l.map f)), .one (.v (.int k i))] = some (.v (.int k i)) := lchk_of (by cases l <;> simp at h ⊢) h k
theorem pu_get (f : Int → D) (l : List Int) (i : Nat) (h : i < l.length) (k : IntKind) : (Pu.lidx 1 0).run P [.one (.l l.length (l.map f)), .one (.v (.int k i))] = some (f (rd l i)) := by
 show (l.map f)[(i : Int).toNat * 1 + 0]? = _
 rw [Int.toNat_natCast, Nat.mul_one, Nat.add_zero, List.getElem?_map, List.getElem?_eq_getElem h, Option.map_some, rd_nat, List.getD_eq_getElem?_getD, List.getElem?_eq_getElem h]
 rfl
theorem pu_set (f : Int → D) (l : List Int) (i : Nat) (h : i < l.length) (k : IntKind) (x : Int) : (Pu.lset 1 0).run P [.one (.l l.length (l.map f)), .one (.v (.int k i)), .one (f x)] = some (.l (l.set i x).length ((l.set i x).map f)) := by
 show (if (i : Int).toNat * 1 + 0 + ([f x] : List D).length ≤ (l.map f).length then some (D.l l.length (putAt (l.map f) ((i : Int).toNat * 1 + 0) [f x])) else none) = _
 rw [Int.toNat_natCast, Nat.mul_one, Nat.add_zero, if_pos (by rw [List.length_map]; exact h), List.length_set, List.map_set]
 rfl
theorem pu_mk (f : Int → Value) (b : Nat) (n : Nat) (h : n * b ≤ 140737488355328) (h2 : n ≤ 140737488355328) (k q : IntKind) : (Pu.lmake (f 0) b).run P [.one (.v (.int k n)), .one (.v (.int q n))] = some (.l (List.replicate n (0 : Int)).length ((List.replicate n (0 : Int)).map fun x => .v (f x))) := by
 show (if 0 ≤ (n : Int) ∧ (n : Int) ≤ n ∧ roomB (n : Int).toNat b = true then some (D.l (n : Int).toNat (List.replicate (n : Int).toNat (.v (f 0)))) else none) = _
 rw [Int.toNat_natCast, if_pos ⟨Int.natCast_nonneg _, Int.le_refl _, roomB_ok h h2⟩, List.length_replicate, List.map_replicate]
end
theorem under_s : Tryz.prog.underlying 9 = some .string := by kernel_rfl
theorem under_i : Tryz.prog.underlying 3 = some (.int .i64) := by kernel_rfl
theorem under_y : Tryz.prog.underlying 5 = some (.int .u8) := by kernel_rfl
theorem under_w : Tryz.prog.underlying 68 = some (.int .u64) := by kernel_rfl
end Go.Proofs.YtliabkapejhohaaGreatDoor.Sp
namespace Go.Proofs.YtliabkapejhohaaGreatDoor.Sp
open Go Go.RowKit Go.Proofs.YtliabkapejhohaaGreatDoorW.PrintWords Go.Proofs.YtliabkapejhohaaGreatDoor.Sx Go.Proofs.YtliabkapejhohaaGreatDoor.NatA Go.Proofs.YtliabkapejhohaaGreatDoor.NatB Go.Proofs.YtliabkapejhohaaGreatDoor.NatC Go.Proofs.YtliabkapejhohaaGreatDoor.NatD Go.Proofs.YtliabkapejhohaaGreatDoor.NatE Go.Proofs.YtliabkapejhohaaGreatDoor.NatI Go.Proofs.YtliabkapejhohaaGreatDoor.NatJ
def F_norm5 : Fct := S1 100000 fun x => [D.v (Value.string (N x))]
def F_cmp5 : Fct := S2 100000 fun x y => [D.v (Value.int .i64 (cmpI x y))]
def F_sub5 : Fct := S2 50000 fun x y => [D.v (Value.string ((subR x y).1)), D.v (Value.bool ((subR x y).2))]
theorem good_weak {G : World → Prop} {f : FuncId} {ct : Ct} {F F' : Fct} (h : Sx.Good Tryz.prog G f ct F) (hw : ∀ ds rs, F' ds = some rs → F ds = some rs) : Sx.Good Tryz.prog G f ct F' := fun ds rs e => h ds rs (hw ds rs e)
theorem S1.weak {l l' : Nat} {g : Nat → List D} (hl : l ≤ l') (ds rs : List D) (h : S1 l g ds = some rs) : S1 l' g ds = some rs := by
 obtain ⟨a, rfl, ha, rfl⟩ := S1.inv h
 exact S1.eq (Nat.le_trans ha hl)
theorem S2.weak {l l' : Nat} {g : Nat → Nat → List D} (hl : l ≤ l') (ds rs : List D) (h : S2 l g ds = some rs) : S2 l' g ds = some rs := by
 obtain ⟨a, b, rfl, ha, hb, rfl⟩ := S2.inv h
 exact S2.eq (Nat.le_trans ha hl) (Nat.le_trans hb hl)
theorem rnorm_loop {C : Cf} (a : ByteArray) (ha : a.size ≤ 1000000) (e : D) : ∀ n : Nat, n ≤ a.size → ∃ m, t_voussoirref01_Norm_l0.run Tryz.prog C m [t_voussoirref01_Norm_l0] [s_ a, e, i_ n] = some [s_ (N (V (a.extract 0 n)))]
 | 0, h => by
  have hz : (a.extract 0 0).size = 0 := size_extract a 0 h
  have : N (V (a.extract 0 0)) = a.extract 0 0 := N_V (.inl hz)
  rw [this]
  exact ⟨0, go_F (by omega) rfl (pu_gt_i _ _ _ _ _) rfl (go_pure rfl (pu_slc_hi under_s a .i64 0 h) (go_ret rfl))⟩
 | n + 1, h => by
  have hi : n < a.size := by omega
  have es : ((n + 1 : Nat) : Int) - 1 = (n : Int) := by omega
  have p1 := pu_sb (P := Tryz.prog) 3 true ((n + 1 : Nat) : Int) 1 (by omega)
  rw [es] at p1
  by_cases hb : rd (bytesOf a) n = 0
  ·obtain ⟨m, hm⟩ := rnorm_loop a ha e n (by omega)
   have hv : V (a.extract 0 (n + 1)) = V (a.extract 0 n) := by
    have := V_extract a n hi
    rw [bt_nat, hb, Int.mul_zero] at this
    omega
   rw [hv]
   exact ⟨m + 1, go_T (by omega) rfl (pu_gt_i _ _ _ _ _) rfl (go_pure rfl p1 (go_pure rfl (pu_ix under_s a n hi .i64) (go_T hb rfl (pu_eq_i _ _ _ _ _) rfl (go_pure rfl p1 (go_again rfl rfl hm)))))⟩
  ·rw [N_extract a n hi (by rw [bt_nat]; exact hb)]
   exact ⟨0, go_T (by omega) rfl (pu_gt_i _ _ _ _ _) rfl (go_pure rfl p1 (go_pure rfl (pu_ix under_s a n hi .i64) (go_F hb rfl (pu_eq_i _ _ _ _ _) rfl (go_pure rfl (pu_slc_hi under_s a .i64 (n + 1) h) (go_ret rfl)))))⟩
theorem r_norm : Sx.Good Tryz.prog X.G 59 ⟨[.one], .v1 .one⟩ F_norm5 := good_tree (tb := []) trivial (fun _ _ => X.G_below) 400 (by kernel_rfl) (by kernel_rfl : _ = some t_voussoirref01_Norm) fun ds rs h => by
 obtain ⟨a, rfl, ha, rfl⟩ := S1.inv h
 obtain ⟨m, hm⟩ := rnorm_loop (C := cfOf []) a (by omega) (i_ a.size) a.size (Nat.le_refl _)
 rw [extract_all] at hm
 exact ⟨m, go_pure rfl (pu_len_s under_s a) (go_loop rfl hm)⟩
def tbR1 : Tb := [(59, F_norm5)]
theorem okR1 : TbOk Tryz.prog X.G tbR1 := .cons (by kernel_rfl) r_norm trivial
def F_at : Fct
 | [.v (.string a), .v (.int .i64 i)] => if 0 ≤ i then some [i_ (rd (bytesOf a) i)] else none
 | _ => none
theorem F_at.eq (a : ByteArray) (i : Nat) : F_at [s_ a, i_ i] = some [i_ (rd (bytesOf a) i)] := by
 show (if 0 ≤ (i : Int) then _ else none) = _
 exact if_pos (Int.natCast_nonneg _)
theorem r_at : Sx.Good Tryz.prog X.G 131 ⟨[.one, .one], .v1 .one⟩ F_at := good_tree (tb := []) trivial (fun _ _ => X.G_below) 400 (by kernel_rfl) (by kernel_rfl : _ = some t_voussoirref01_at) fun ds rs h => by
 unfold F_at at h
 split at h
 ·rename_i a i
  split at h
  ·rename_i hi
   obtain ⟨i, rfl⟩ := Int.eq_ofNat_of_zero_le hi
   obtain rfl := Option.some.inj h
   by_cases hl : i < a.size
   ·exact ⟨0, go_pure rfl (pu_len_s under_s a) (go_T (by omega) rfl (pu_lt_i _ _ _ _ _) rfl (go_pure rfl (pu_ix under_s a i hl .i64) (go_pure rfl (pu_cvi under_i .u8 _ under_y (dig_rd (dig_bytes a) (by rw [bytesOf_length]; exact hl))) (go_ret rfl))))⟩
   ·rw [rd_over (by rw [bytesOf_length]; omega)]
    exact ⟨0, go_pure rfl (pu_len_s under_s a) (go_F (by omega) rfl (pu_lt_i _ _ _ _ _) rfl (go_ret rfl))⟩
  ·cases h
 ·cases h
def tbR2 : Tb := (131, F_at) :: tbR1
theorem okR2 : TbOk Tryz.prog X.G tbR2 := .cons (by kernel_rfl) r_at okR1
theorem rcmp_loop {C : Cf} (x y : Nat) (hs : (N x).size = (N y).size) (hx : (N x).size ≤ 1000000) (e0 e1 e4 e5 e6 e7 e8 e9 e10 e11 : D) : ∀ r : Nat, r ≤ (N x).size → (nb x).drop r = (nb y).drop r → ∃ m, t_voussoirref01_Cmp_l0.run Tryz.prog C m [t_voussoirref01_Cmp_l0] [e0, e1, s_ (N x), s_ (N y), e4, e5, e6, e7, e8, e9, e10, e11, i_ ((r : Int) - 1)] = some [i_ (cmpI x y)]
 | 0, _, hd => by
  rw [List.drop_zero, List.drop_zero] at hd
  have : x = y := by
   have := congrArg (val 256) hd
   rw [val_nb, val_nb] at this
   exact Int.ofNat_inj.1 this
  unfold cmpI
  rw [if_neg (by omega), if_pos this]
  exact ⟨0, go_F (by omega) rfl (pu_ge_i _ _ _ _ _) rfl (go_ret rfl)⟩
 | r + 1, hr, hd => by
  have lx : (nb x).length = (N x).size := by rw [← bytesOf_length, bytes_N]
  have ly : (nb y).length = (N x).size := by rw [hs, ← bytesOf_length, bytes_N]
  have es : ((r + 1 : Nat) : Int) - 1 = (r : Int) := by omega
  rw [es]
  have px := pu_ix (P := Tryz.prog) under_s (N x) r (by omega) .i64
  have py := pu_ix (P := Tryz.prog) under_s (N y) r (by omega) .i64
  rw [bytes_N] at px py
  by_cases hl : rd (nb x) (r : Int) < rd (nb y) (r : Int)
  ·have := val_lt_of (B := 256) (by decide) (dig_nb x) (dig_nb y) (by omega) r (by omega) hd hl
   rw [val_nb, val_nb] at this
   unfold cmpI
   rw [if_pos (by omega)]
   exact ⟨0, go_T (by omega) rfl (pu_ge_i _ _ _ _ _) rfl (go_pure rfl px (go_pure rfl py (go_T hl rfl (pu_lt_i _ _ _ _ _) rfl (go_ret rfl))))⟩
  ·by_cases he : rd (nb y) (r : Int) < rd (nb x) (r : Int)
   ·have := val_lt_of (B := 256) (by decide) (dig_nb y) (dig_nb x) (by omega) r (by omega) hd.symm he
    rw [val_nb, val_nb] at this
    unfold cmpI
    rw [if_neg (by omega), if_neg (by omega)]
    exact ⟨0, go_T (by omega) rfl (pu_ge_i _ _ _ _ _) rfl (go_pure rfl px (go_pure rfl py (go_F hl rfl (pu_lt_i _ _ _ _ _) rfl (go_pure rfl px (go_pure rfl py (go_T he rfl (pu_gt_i _ _ _ _ _) rfl (go_ret rfl)))))))⟩
   ·obtain ⟨m, hm⟩ := rcmp_loop x y hs hx e0 e1 e4 e5 e6 e7 e8 e9 e10 e11 r (by omega) (drop_eq (by omega) (by omega) hd (by omega))
    exact ⟨m + 1, go_T (by omega) rfl (pu_ge_i _ _ _ _ _) rfl (go_pure rfl px (go_pure rfl py (go_F hl rfl (pu_lt_i _ _ _ _ _) rfl (go_pure rfl px (go_pure rfl py (go_F he rfl (pu_gt_i _ _ _ _ _) rfl (go_pure rfl (pu_sb _ _ _ _ (by omega)) (go_again rfl rfl hm))))))))⟩
theorem r_cmp : Sx.Good Tryz.prog X.G 134 ⟨[.one, .one], .v1 .one⟩ F_cmp5 := good_tree okR2 (fun _ _ => X.G_below) 400 (by kernel_rfl) (by kernel_rfl : _ = some t_voussoirref01_Cmp) fun ds rs h => by
 obtain ⟨a, b, rfl, ha, hb, rfl⟩ := S2.inv h
 have sx := N_small ha
 have sy := N_small hb
 have n1 : F_norm5 [s_ a] = some [s_ (N (V a))] := S1.eq (by omega)
 have n2 : F_norm5 [s_ b] = some [s_ (N (V b))] := S1.eq (by omega)
 generalize V a = x at *
 generalize V b = y at *
 have l1 := pu_len_s (P := Tryz.prog) under_s (N x)
 have l2 := pu_len_s (P := Tryz.prog) under_s (N y)
 by_cases h1 : (N x).size < (N y).size
 ·have := lt_of_size h1
  unfold cmpI
  rw [if_pos this]
  exact ⟨0, go_call F_norm5 rfl rfl n1 rfl (go_call F_norm5 rfl rfl n2 rfl (go_pure rfl l1 (go_pure rfl l2 (go_T (by omega) rfl (pu_lt_i _ _ _ _ _) rfl (go_ret rfl)))))⟩
 ·by_cases h2 : (N y).size < (N x).size
  ·have := lt_of_size h2
   unfold cmpI
   rw [if_neg (by omega), if_neg (by omega)]
   exact ⟨0, go_call F_norm5 rfl rfl n1 rfl (go_call F_norm5 rfl rfl n2 rfl (go_pure rfl l1 (go_pure rfl l2 (go_F (by omega) rfl (pu_lt_i _ _ _ _ _) rfl (go_pure rfl l1 (go_pure rfl l2 (go_T (by omega) rfl (pu_gt_i _ _ _ _ _) rfl (go_ret rfl))))))))⟩
  ·have lx : (nb x).length = (N x).size := by rw [← bytesOf_length, bytes_N]
   have ly : (nb y).length = (N y).size := by rw [← bytesOf_length, bytes_N]
   obtain ⟨m, hm⟩ := rcmp_loop (C := cfOf tbR2) x y (by omega) (by omega) (s_ a) (s_ b) (i_ (N x).size) (i_ (N y).size) (b_ false) (i_ (N x).size) (i_ (N y).size) (b_ false) (i_ (N x).size) (i_ (((N x).size : Int) - 1)) (N x).size (Nat.le_refl _) (by rw [List.drop_eq_nil_of_le (by omega), List.drop_eq_nil_of_le (by omega)])
   exact ⟨m, go_call F_norm5 rfl rfl n1 rfl (go_call F_norm5 rfl rfl n2 rfl (go_pure rfl l1 (go_pure rfl l2 (go_F (by omega) rfl (pu_lt_i _ _ _ _ _) rfl (go_pure rfl l1 (go_pure rfl l2 (go_F (by omega) rfl (pu_gt_i _ _ _ _ _) rfl (go_pure rfl l1 (go_pure rfl (pu_sb _ _ _ _ (by omega)) (go_loop rfl hm))))))))))⟩
def tbR3 : Tb := (134, F_cmp5) :: tbR2
theorem okR3 : TbOk Tryz.prog X.G tbR3 := .cons (by kernel_rfl) r_cmp okR2
theorem bdig (a : ByteArray) (i : Nat) : 0 ≤ rd (bytesOf a) (i : Int) ∧ rd (bytesOf a) (i : Int) < 256 := dig_rd' (by decide) (dig_bytes a) i
theorem dig_snoc {B : Int} {l : List Int} {x : Int} (h : Dig B l) (h0 : 0 ≤ x ∧ x < B) : Dig B (l ++ [x]) := dig_append.2 ⟨h, dig_cons.2 ⟨h0, dig_nil _⟩⟩
theorem val_snoc (B : Int) (l : List Int) (x : Int) : val B (l ++ [x]) = val B l + B ^ l.length * x := by rw [val_append, val_single]
theorem V_lt_int (a : ByteArray) : (V a : Int) < 256 ^ a.size := by
 have := val_lt (B := 256) (by decide) (dig_bytes a)
 rw [← V_int, bytesOf_length] at this
 exact this
theorem norm_str {l : List Int} (hd : Dig 256 l) (hl : l.length ≤ 100000) {x : Nat} (hx : val 256 l = x) : F_norm5 [s_ (strOfNums l)] = some [s_ (N x)] := by
 have : V (strOfNums l) = x := by
  have := V_str hd
  omega
 rw [← this]
 exact S1.eq (by rw [size_str]; exact hl)
theorem radd_loop (a b : ByteArray) (ha : a.size ≤ 20000) (hb : b.size ≤ 20000) (e : D) (r : Nat) : ∀ (i : Nat) (l : List Int) (c : Int), i + r = 20001 → l.length = i → Dig 256 l → (0 ≤ c ∧ c ≤ 1) →
  val 256 l + 256 ^ i * c = val 256 ((bytesOf a).take i) + val 256 ((bytesOf b).take i) → Rn Tryz.prog (cfOf tbR3) t_voussoirref01_Add_l0 [t_voussoirref01_Add_l0] [s_ a, s_ b, e, i_ c, i_ i, Bl l] [s_ (N (V a + V b))] := by
 have fin : ∀ (i : Nat) (l : List Int), l.length = i → i ≤ 20001 → Dig 256 l → ¬ i < a.size → ¬ i < b.size → val 256 l = val 256 ((bytesOf a).take i) + val 256 ((bytesOf b).take i) → Rn Tryz.prog (cfOf tbR3) t_voussoirref01_Add_l0 [t_voussoirref01_Add_l0] [s_ a, s_ b, e, i_ 0, i_ i, Bl l] [s_ (N (V a + V b))] := fun i l hl hi hd h1 h2 hv => by
  rw [List.take_of_length_le (by rw [bytesOf_length]; omega), List.take_of_length_le (by rw [bytesOf_length]; omega), ← V_int, ← V_int] at hv
  exact rp (pu_len_s under_s a) (rF (by omega) (pu_lt_i 3 false .i64 i a.size) (rp (pu_len_s under_s b) (rF (by omega) (pu_lt_i 3 false .i64 i b.size) (rF (by decide) (pu_gt_i 3 true .i64 0 0) (rp (pu_str l) (rc F_norm5 (norm_str hd (by omega) (x := V a + V b) (by omega)) rr))))))
 induction r with
 | zero =>
  intro i l c hi hl hd hc hv
  have hc0 : c = 0 := by
   rcases (show c = 0 ∨ c = 1 by omega) with h | h
   ·exact h
   ·rw [List.take_of_length_le (by rw [bytesOf_length]; omega), List.take_of_length_le (by rw [bytesOf_length]; omega), ← V_int, ← V_int, h, Int.mul_one] at hv
    have h0 := val_nonneg (by decide) hd
    have h1 := V_lt a
    have h2 := V_lt b
    generalize hM : 20000 = M at *
    have h3 : 256 ^ a.size ≤ 256 ^ M := Nat.pow_le_pow_right (by decide) ha
    have h4 : 256 ^ b.size ≤ 256 ^ M := Nat.pow_le_pow_right (by decide) hb
    have h5 : (256 : Int) ^ i = ((256 ^ M : Nat) : Int) * 256 := by rw [show i = M + 1 by omega, Int.pow_succ, Int.natCast_pow]; rfl
    omega
  subst hc0
  exact fin i l hl (by omega) hd (by omega) (by omega) (by rw [Int.mul_zero] at hv; omega)
 | succ r ih =>
  intro i l c hi hl hd hc hv
  by_cases hgo : i < a.size ∨ i < b.size ∨ c > 0
  ·have h1 := bdig a i
   have h2 := bdig b i
   have e1 := val_take_next 256 (bytesOf a) i
   have e2 := val_take_next 256 (bytesOf b) i
   obtain ⟨n, hn⟩ : ∃ n, n = c + (rd (bytesOf a) i + rd (bytesOf b) i) := ⟨_, rfl⟩
   have hdm : 256 * (n / 256) + n % 256 = n := Int.mul_ediv_add_emod _ _
   have next := ih (i + 1) (l ++ [n % 256]) (n / 256) (by omega) (by simp [hl]) (dig_snoc hd (by omega)) (by omega) (by
    rw [val_snoc, hl, e1, e2, Int.pow_succ]
    grind)
   have c1 := F_at.eq a i
   have c2 := F_at.eq b i
   have p1 := pu_ad (P := Tryz.prog) 3 false (rd (bytesOf a) i) (rd (bytesOf b) i) (by omega)
   have p2 := pu_ad (P := Tryz.prog) 3 false c (rd (bytesOf a) i + rd (bytesOf b) i) (by omega)
   rw [← hn] at p2
   have p3 := pu_rm (P := Tryz.prog) 3 true .i64 n 256 (by omega) (by decide)
   have p4 := pu_cv8 (P := Tryz.prog) under_y .i64 (n % 256) under_i (by omega)
   have p5 := pu_app (P := Tryz.prog) l (n % 256) (by omega)
   have p6 := pu_qu (P := Tryz.prog) 3 true n 256 (by omega) (by decide)
   have p7 := pu_ad (P := Tryz.prog) 3 true (i : Int) 1 (by omega)
   by_cases hx : i < a.size
   ·exact rp (pu_len_s under_s a) (rT (by omega) (pu_lt_i 3 false .i64 i a.size) (rc F_at c1 (rc F_at c2 (rp p1 (rp p2 (rp p3 (rp p4 (rp p5 (rp p6 (rp p7 (ra next)))))))))))
   ·by_cases hy : i < b.size
    ·exact rp (pu_len_s under_s a) (rF (by omega) (pu_lt_i 3 false .i64 i a.size) (rp (pu_len_s under_s b) (rT (by omega) (pu_lt_i 3 false .i64 i b.size) (rc F_at c1 (rc F_at c2 (rp p1 (rp p2 (rp p3 (rp p4 (rp p5 (rp p6 (rp p7 (ra next)))))))))))))
    ·exact rp (pu_len_s under_s a) (rF (by omega) (pu_lt_i 3 false .i64 i a.size) (rp (pu_len_s under_s b) (rF (by omega) (pu_lt_i 3 false .i64 i b.size) (rT (by omega) (pu_gt_i 3 true .i64 c 0) (rc F_at c1 (rc F_at c2 (rp p1 (rp p2 (rp p3 (rp p4 (rp p5 (rp p6 (rp p7 (ra next))))))))))))))
  ·obtain rfl : c = 0 := by omega
   exact fin i l hl (by omega) hd (by omega) (by omega) (by rw [Int.mul_zero] at hv; omega)
theorem r_add : Sx.Good Tryz.prog X.G 98 ⟨[.one, .one], .v1 .one⟩ F_add := good_tree okR3 (fun _ _ => X.G_below) 400 (by kernel_rfl) (by kernel_rfl : _ = some t_voussoirref01_Add) fun ds rs h => by
 obtain ⟨a, b, rfl, ha, hb, rfl⟩ := S2.inv h
 exact rp pu_nil (rl (radd_loop a b ha hb (Bl []) 20001 0 [] 0 rfl rfl (dig_nil _) (by decide) (by simp [val])))
def tbR4 : Tb := (98, F_add) :: tbR3
theorem okR4 : TbOk Tryz.prog X.G tbR4 := .cons (by kernel_rfl) r_add okR3
theorem rsub_loop (a b : ByteArray) (ha : a.size ≤ 50000) (hge : V b ≤ V a) (e2 e3 e4 : D) (r : Nat) : ∀ (i : Nat) (l : List Int) (c : Int), i + r = a.size → l.length = i → Dig 256 l → (0 ≤ c ∧ c ≤ 1) →
  val 256 l + val 256 ((bytesOf b).take i) = val 256 ((bytesOf a).take i) + 256 ^ i * c → Rn Tryz.prog (cfOf tbR4) t_voussoirref01_Sub_l0 [t_voussoirref01_Sub_l0] [s_ a, s_ b, e2, e3, e4, i_ c, i_ i, Bl l] [s_ (N (V a - V b)), b_ true] := by
 induction r with
 | zero =>
  intro i l c hi hl hd hc hv
  have hva := V_int a
  have hvb := V_int b
  rw [List.take_of_length_le (l := bytesOf a) (by rw [bytesOf_length]; omega), ← hva] at hv
  have hb2 : val 256 ((bytesOf b).take i) = (V b : Int) := by
   by_cases hbl : b.size ≤ i
   ·rw [List.take_of_length_le (by rw [bytesOf_length]; omega), hvb]
   ·have h1 := val_split 256 (bytesOf b) i (by rw [bytesOf_length]; omega)
    have h2 := val_nonneg (by decide) (dig_take (dig_bytes b) i)
    have h3 := val_nonneg (by decide) (dig_drop (dig_bytes b) i)
    have h4 : (0 : Int) < 256 ^ i := Int.pow_pos (by decide)
    have h5 : (V a : Int) < 256 ^ i := by rw [show i = a.size by omega]; exact V_lt_int a
    have h6 : val 256 ((bytesOf b).drop i) = 0 := by
     rcases (show val 256 ((bytesOf b).drop i) = 0 ∨ 1 ≤ val 256 ((bytesOf b).drop i) by omega) with h | h
     ·exact h
     ·have := Int.mul_le_mul_of_nonneg_left h (Int.le_of_lt h4)
      rw [Int.mul_one] at this
      omega
    rw [h6, Int.mul_zero] at h1
    omega
  rw [hb2] at hv
  have hl0 := val_lt (by decide) hd
  rw [hl] at hl0
  have hc0 : c = 0 := by
   rcases (show c = 0 ∨ c = 1 by omega) with h | h
   ·exact h
   ·rw [h, Int.mul_one] at hv
    omega
  rw [hc0, Int.mul_zero] at hv
  exact rp (pu_len_s under_s a) (rF (by omega) (pu_lt_i 3 false .i64 i a.size) (rp (pu_str l) (rc F_norm5 (norm_str hd (by omega) (x := V a - V b) (by omega)) rr)))
 | succ r ih =>
  intro i l c hi hl hd hc hv
  have h1 := bdig a i
  have h2 := bdig b i
  have e1 := val_take_next 256 (bytesOf a) i
  have e2' := val_take_next 256 (bytesOf b) i
  obtain ⟨n, hn⟩ : ∃ n, n = rd (bytesOf a) i - rd (bytesOf b) i - c := ⟨_, rfl⟩
  have c1 := F_at.eq a i
  have c2 := F_at.eq b i
  have p1 := pu_sb (P := Tryz.prog) 3 false (rd (bytesOf a) i) (rd (bytesOf b) i) (by omega)
  have p2 := pu_sb (P := Tryz.prog) 3 false (rd (bytesOf a) i - rd (bytesOf b) i) c (by omega)
  rw [← hn] at p2
  have p7 := pu_ad (P := Tryz.prog) 3 true (i : Int) 1 (by omega)
  refine rp (pu_len_s under_s a) (rT (by omega) (pu_lt_i 3 false .i64 i a.size) (rc F_at c1 (rc F_at c2 (rp p1 (rp p2 ?_)))))
  by_cases hneg : n < 0
  ·have next := ih (i + 1) (l ++ [n + 256]) 1 (by omega) (by simp [hl]) (dig_snoc hd (by omega)) (by omega) (by
    rw [val_snoc, hl, e1, e2', Int.pow_succ]
    grind)
   exact rT hneg (pu_lt_i 3 true .i64 n 0) (rp (pu_ad 3 true n 256 (by omega)) (rp (pu_cv8 under_y .i64 (n + 256) under_i (by omega)) (rp (pu_app l (n + 256) (by omega)) (rp p7 (ra next)))))
  ·have next := ih (i + 1) (l ++ [n]) 0 (by omega) (by simp [hl]) (dig_snoc hd (by omega)) (by omega) (by
    rw [val_snoc, hl, e1, e2']
    grind)
   exact rF hneg (pu_lt_i 3 true .i64 n 0) (rp (pu_cv8 under_y .i64 n under_i (by omega)) (rp (pu_app l n (by omega)) (rp p7 (ra next))))
theorem r_sub : Sx.Good Tryz.prog X.G 120 ⟨[.one, .one], .tup [.one, .one]⟩ F_sub5 := good_tree okR4 (fun _ _ => X.G_below) 400 (by kernel_rfl) (by kernel_rfl : _ = some t_voussoirref01_Sub) fun ds rs h => by
 obtain ⟨a, b, rfl, ha, hb, rfl⟩ := S2.inv h
 have c1 : F_cmp5 [s_ a, s_ b] = some [i_ (cmpI (V a) (V b))] := S2.eq (by omega) (by omega)
 unfold subR
 by_cases h : V a < V b
 ·rw [if_pos h]
  exact rc F_cmp5 c1 (rT (cmpI_neg.2 h) (pu_lt_i 3 true .i64 (cmpI (V a) (V b)) 0) rr)
 ·rw [if_neg h]
  exact rc F_cmp5 c1 (rF (fun e => h (cmpI_neg.1 e)) (pu_lt_i 3 true .i64 (cmpI (V a) (V b)) 0) (rp pu_nil (rl (rsub_loop a b ha (by omega) (i_ (cmpI (V a) (V b))) (b_ false) (Bl []) a.size 0 [] 0 (by omega) rfl (dig_nil _) (by omega) (by simp [val])))))
def tbR5 : Tb := (120, F_sub5) :: tbR4
theorem okR5 : TbOk Tryz.prog X.G tbR5 := .cons (by kernel_rfl) r_sub okR4
theorem rof_loop {C : Cf} (e0 e1 : D) : ∀ (j m : Nat) (l : List Int), m < 256 ^ j → m < 18446744073709551616 → l.length + j ≤ 1000 → Rn Tryz.prog C t_voussoirref01_Of_l0 [t_voussoirref01_Of_l0] [e0, e1, w_ m, Bl l] [s_ (strOfNums (l ++ nb m))] := by
 have fin : ∀ l : List Int, Rn Tryz.prog C t_voussoirref01_Of_l0 [t_voussoirref01_Of_l0] [e0, e1, w_ 0, Bl l] [s_ (strOfNums (l ++ nb 0))] := fun l => by
  rw [nb_zero, List.append_nil]
  exact rF (by decide) (pu_gt_i 68 true .u64 0 0) (rp (pu_str l) rr)
 intro j
 induction j with
 | zero =>
  intro m l hm _ _
  obtain rfl : m = 0 := by rw [Nat.pow_zero] at hm; omega
  exact fin l
 | succ j ih =>
  intro m l hm hlt hl
  by_cases h0 : m = 0
  ·subst h0
   exact fin l
  ·rw [nb_pos h0]
   rw [Nat.pow_succ] at hm
   have next := ih (m / 256) (l ++ [((m % 256 : Nat) : Int)]) (by omega) (by omega) (by rw [List.length_append, List.length_singleton]; omega)
   rw [List.append_assoc] at next
   have p3 := pu_rm (P := Tryz.prog) 68 true .u64 (m : Int) 256 (by omega) (by decide)
   have p6 := pu_qw (P := Tryz.prog) 68 true (m : Int) 256 (by omega) (by decide)
   rw [show (m : Int) % 256 = ((m % 256 : Nat) : Int) by omega] at p3
   rw [show (m : Int) / 256 = ((m / 256 : Nat) : Int) by omega] at p6
   exact rT (by omega) (pu_gt_i 68 true .u64 m 0) (rp p3 (rp (pu_cv8 under_y .u64 ((m % 256 : Nat) : Int) under_w (by omega)) (rp (pu_app l ((m % 256 : Nat) : Int) (by omega)) (rp p6 (ra next)))))
theorem r_of : Sx.Good Tryz.prog X.G 100 ⟨[.one], .v1 .one⟩ F_from := good_tree okR5 (fun _ _ => X.G_below) 400 (by kernel_rfl) (by kernel_rfl : _ = some t_voussoirref01_Of) fun ds rs h => by
 obtain ⟨n, rfl, hn, rfl⟩ := F_from.inv h
 exact rp pu_nil (rl (rof_loop (w_ n) (Bl []) 8 n [] (by simpa using hn) hn (by decide)))
theorem rmul_row (a b : ByteArray) (ha : a.size ≤ 20000) (hb : b.size ≤ 20000) (e2 e3 e4 e5 e6 e8 e9 e10 : D) (i : Nat) (hi : i < a.size) (R : List D) (T0 : Int) (hT : T0 + 256 ^ i * (rd (bytesOf a) i * V b) < 256 ^ (a.size + b.size + 1)) (r : Nat) : ∀ (j : Nat) (z : List Int) (c : Int), j + r = a.size + b.size + 1 - i → z.length = a.size + b.size + 1 → Dig 256 z → (0 ≤ c ∧ c < 256) →
  val 256 z + 256 ^ (i + j) * c = T0 + 256 ^ i * (rd (bytesOf a) i * val 256 ((bytesOf b).take j)) →
  (∀ z', z'.length = a.size + b.size + 1 → Dig 256 z' → val 256 z' = T0 + 256 ^ i * (rd (bytesOf a) i * V b) → Rn Tryz.prog (cfOf tbR5) t_voussoirref01_Mul_l0 [t_voussoirref01_Mul_l0] [s_ a, s_ b, e2, e3, e4, e5, e6, i_ ((i + 1 : Nat) : Int), Il z'] R) →
  Rn Tryz.prog (cfOf tbR5) t_voussoirref01_Mul_l1 [t_voussoirref01_Mul_l0, t_voussoirref01_Mul_l1] [s_ a, s_ b, e2, e3, e4, e5, e6, i_ i, e8, e9, e10, i_ c, i_ j, Il z] R := by
 have hda := bdig a i
 have fin : ∀ (j : Nat) (z : List Int), z.length = a.size + b.size + 1 → Dig 256 z → ¬ j < b.size → val 256 z = T0 + 256 ^ i * (rd (bytesOf a) i * val 256 ((bytesOf b).take j)) →
  (∀ z', z'.length = a.size + b.size + 1 → Dig 256 z' → val 256 z' = T0 + 256 ^ i * (rd (bytesOf a) i * V b) → Rn Tryz.prog (cfOf tbR5) t_voussoirref01_Mul_l0 [t_voussoirref01_Mul_l0] [s_ a, s_ b, e2, e3, e4, e5, e6, i_ ((i + 1 : Nat) : Int), Il z'] R) → Rn Tryz.prog (cfOf tbR5) t_voussoirref01_Mul_l1 [t_voussoirref01_Mul_l0, t_voussoirref01_Mul_l1] [s_ a, s_ b, e2, e3, e4, e5, e6, i_ i, e8, e9, e10, i_ 0, i_ j, Il z] R := fun j z hz hd hj hv K => by
  have k := K z hz hd (by rw [hv, List.take_of_length_le (by rw [bytesOf_length]; omega), V_int])
  exact rp (pu_len_s under_s b) (rF (by omega) (pu_lt_i 3 false .i64 j b.size) (rF (by decide) (pu_gt_i 3 true .i64 0 0) (rp (pu_ad 3 true (i : Int) 1 (by omega)) (ra k))))
 induction r with
 | zero =>
  intro j z c hj hz hd hc hv K
  have hc0 : c = 0 := by
   rcases (show c = 0 ∨ 1 ≤ c by omega) with h | h
   ·exact h
   ·rw [List.take_of_length_le (l := bytesOf b) (by rw [bytesOf_length]; omega), ← V_int] at hv
    have h0 := val_nonneg (by decide) hd
    have h1 : (0 : Int) < 256 ^ (i + j) := Int.pow_pos (by decide)
    have h2 := Int.mul_le_mul_of_nonneg_left h (Int.le_of_lt h1)
    rw [Int.mul_one, show i + j = a.size + b.size + 1 by omega] at h2
    rw [show i + j = a.size + b.size + 1 by omega] at hv
    omega
  subst hc0
  exact fin j z hz hd (by omega) (by rw [Int.mul_zero] at hv; omega) K
 | succ r ih =>
  intro j z c hj hz hd hc hv K
  by_cases hgo : j < b.size ∨ c > 0
  ·have hdb := bdig b j
   have hzr := dig_rd hd (i := i + j) (by omega)
   have hp : 0 ≤ rd (bytesOf a) i * rd (bytesOf b) j := Int.mul_nonneg hda.1 hdb.1
   have hp2 : rd (bytesOf a) i * rd (bytesOf b) j ≤ 255 * 255 := Int.mul_le_mul (by omega) (by omega) hdb.1 (by omega)
   obtain ⟨n, hn⟩ : ∃ n, n = rd z ((i + j : Nat) : Int) + rd (bytesOf a) i * rd (bytesOf b) j + c := ⟨_, rfl⟩
   have hdm : 256 * (n / 256) + n % 256 = n := Int.mul_ediv_add_emod _ _
   have next := ih (j + 1) (z.set (i + j) (n % 256)) (n / 256) (by omega) (by rw [List.length_set, hz]) (dig_set hd _ (by omega) (by omega)) (by omega) (by
    rw [val_put _ _ _ _ (by omega), val_take_next, show i + (j + 1) = i + j + 1 by omega, Int.pow_succ]
    have e1 : (256 : Int) ^ (i + j) = 256 ^ i * 256 ^ j := Int.pow_add _ _ _
    grind) K
   have c1 := F_at.eq a i
   have c2 := F_at.eq b j
   have p0 := pu_ad (P := Tryz.prog) 3 false (i : Int) (j : Int) (by omega)
   rw [show (i : Int) + j = ((i + j : Nat) : Int) by omega] at p0
   have q1 := pu_chk (P := Tryz.prog) i_ z (i + j) (by omega) .i64
   have q2 := pu_get (P := Tryz.prog) i_ z (i + j) (by omega) .i64
   have p1 := pu_ml (P := Tryz.prog) 3 false (rd (bytesOf a) i) (rd (bytesOf b) j) (by omega)
   have p2 := pu_ad (P := Tryz.prog) 3 false (rd z ((i + j : Nat) : Int)) (rd (bytesOf a) i * rd (bytesOf b) j) (by omega)
   have p3 := pu_ad (P := Tryz.prog) 3 false (rd z ((i + j : Nat) : Int) + rd (bytesOf a) i * rd (bytesOf b) j) c (by omega)
   rw [← hn] at p3
   have p4 := pu_rm (P := Tryz.prog) 3 true .i64 n 256 (by omega) (by decide)
   have q3 := pu_set (P := Tryz.prog) i_ z (i + j) (by omega) .i64 (n % 256)
   have p5 := pu_qu (P := Tryz.prog) 3 true n 256 (by omega) (by decide)
   have p6 := pu_ad (P := Tryz.prog) 3 true (j : Int) 1 (by omega)
   by_cases hj' : j < b.size
   ·exact rp (pu_len_s under_s b) (rT (by omega) (pu_lt_i 3 false .i64 j b.size) (rp p0 (rp q1 (rp q2 (rc F_at c1 (rc F_at c2 (rp p1 (rp p2 (rp p3 (rp p0 (rp p4 (rp q1 (rp q3 (rp p5 (rp p6 (ra next))))))))))))))))
   ·exact rp (pu_len_s under_s b) (rF (by omega) (pu_lt_i 3 false .i64 j b.size) (rT (by omega) (pu_gt_i 3 true .i64 c 0) (rp p0 (rp q1 (rp q2 (rc F_at c1 (rc F_at c2 (rp p1 (rp p2 (rp p3 (rp p0 (rp p4 (rp q1 (rp q3 (rp p5 (rp p6 (ra next)))))))))))))))))
  ·obtain rfl : c = 0 := by omega
   exact fin j z hz hd (by omega) (by rw [Int.mul_zero] at hv; omega) K
theorem rmul_out (z : List Int) (hd : Dig 256 z) (hs : z.length ≤ 100000) (x : Nat) (hx : val 256 z = x) (e0 e1 e2 e3 e4 e5 e6 e7 e9 e10 e11 : D) (r : Nat) : ∀ (i : Nat) (l : List Int), i + r = z.length → l = z.take i → Rn Tryz.prog (cfOf tbR5) t_voussoirref01_Mul_l2 [t_voussoirref01_Mul_l2] [e0, e1, e2, e3, e4, e5, e6, e7, Il z, e9, e10, e11, i_ z.length, i_ i, Bl l] [s_ (N x)] := by
 induction r with
 | zero =>
  intro i l hi hl
  rw [List.take_of_length_le (by omega)] at hl
  subst hl
  exact rF (by omega) (pu_lt_i 3 false .i64 i l.length) (rp (pu_str l) (rc F_norm5 (norm_str hd hs hx) rr))
 | succ r ih =>
  intro i l hi hl
  have hr := dig_rd hd (i := i) (by omega)
  have hll : l.length = i := by rw [hl, List.length_take]; omega
  have next := ih (i + 1) (l ++ [rd z i]) (by omega) (by rw [hl, take_snoc z i (by omega)])
  exact rT (by omega) (pu_lt_i 3 false .i64 i z.length) (rp (pu_chk i_ z i (by omega) .i64) (rp (pu_get i_ z i (by omega) .i64) (rp (pu_cv8 under_y .i64 (rd z i) under_i hr) (rp (pu_app l (rd z i) (by omega)) (rp (pu_ad 3 true (i : Int) 1 (by omega)) (ra next))))))
theorem rmul_loop (a b : ByteArray) (ha : a.size ≤ 20000) (hb : b.size ≤ 20000) (e2 e3 e4 e5 e6 : D) (r : Nat) : ∀ (i : Nat) (z : List Int), i + r = a.size → z.length = a.size + b.size + 1 → Dig 256 z → val 256 z = val 256 ((bytesOf a).take i) * V b → Rn Tryz.prog (cfOf tbR5) t_voussoirref01_Mul_l0 [t_voussoirref01_Mul_l0] [s_ a, s_ b, e2, e3, e4, e5, e6, i_ i, Il z] [s_ (N (V a * V b))] := by
 induction r with
 | zero =>
  intro i z hi hz hd hv
  rw [List.take_of_length_le (by rw [bytesOf_length]; omega), ← V_int, ← Int.natCast_mul] at hv
  have := rmul_out z hd (by omega) (V a * V b) hv (s_ a) (s_ b) e2 e3 e4 e5 e6 (i_ i) (i_ a.size) (b_ false) (Bl []) z.length 0 [] (by omega) rfl
  exact rp (pu_len_s under_s a) (rF (by omega) (pu_lt_i 3 false .i64 i a.size) (rp pu_nil (rp (pu_llen z) (rl this))))
 | succ r ih =>
  intro i z hi hz hd hv
  have hda := bdig a i
  have e1 := val_take_next 256 (bytesOf a) i
  have row := rmul_row a b ha hb e2 e3 e4 e5 e6 (Il z) (i_ a.size) (b_ true) i (by omega) [s_ (N (V a * V b))] (val 256 z) ?_ (a.size + b.size + 1 - i) 0 z 0 (by omega) hz hd (by omega) (by simp [val]) (fun z' hz' hd' hv' => ih (i + 1) z' (by omega) hz' hd' (by rw [hv', hv, e1, Int.add_mul, Int.mul_assoc]))
  ·exact rp (pu_len_s under_s a) (rT (by omega) (pu_lt_i 3 false .i64 i a.size) (rl row))
  have h1 : val 256 z + 256 ^ i * (rd (bytesOf a) i * V b) = val 256 ((bytesOf a).take (i + 1)) * V b := by rw [hv, e1, Int.add_mul, Int.mul_assoc]
  rw [h1]
  have h2 := val_lt (by decide) (dig_take (dig_bytes a) (i + 1))
  rw [List.length_take, bytesOf_length, Nat.min_eq_left (by omega)] at h2
  have h3' := V_lt_int b
  have h4 := val_nonneg (by decide) (dig_take (dig_bytes a) (i + 1))
  have h5 : val 256 ((bytesOf a).take (i + 1)) * V b ≤ 256 ^ (i + 1) * 256 ^ b.size := Int.mul_le_mul (Int.le_of_lt h2) (Int.le_of_lt h3') (by omega) (Int.le_of_lt (Int.pow_pos (by decide)))
  rw [← Int.pow_add] at h5
  have h6 : (256 : Int) ^ (i + 1 + b.size) < 256 ^ (a.size + b.size + 1) := by
   have := Nat.pow_lt_pow_right (show 1 < 256 by decide) (show i + 1 + b.size < a.size + b.size + 1 by omega)
   have e : ∀ m : Nat, (256 : Int) ^ m = ((256 ^ m : Nat) : Int) := fun m => by rw [Int.natCast_pow]; rfl
   rw [e, e]
   exact Int.ofNat_lt.2 this
  exact Int.lt_of_le_of_lt h5 h6
theorem r_mul : Sx.Good Tryz.prog X.G 118 ⟨[.one, .one], .v1 .one⟩ F_mul := good_tree okR5 (fun _ _ => X.G_below) 400 (by kernel_rfl) (by kernel_rfl : _ = some t_voussoirref01_Mul) fun ds rs h => by
 obtain ⟨a, b, rfl, ha, hb, rfl⟩ := S2.inv h
 have p1 := pu_ad (P := Tryz.prog) 3 false (a.size : Int) (b.size : Int) (by omega)
 have p2 := pu_ad (P := Tryz.prog) 3 true ((a.size : Int) + b.size) 1 (by omega)
 rw [show (a.size : Int) + b.size + 1 = ((a.size + b.size + 1 : Nat) : Int) by omega] at p2
 have p3 := pu_mk (P := Tryz.prog) (fun x => .int .i64 x) 8 (a.size + b.size + 1) (by omega) (by omega) .i64 .i64
 have lp := rmul_loop a b ha hb (i_ a.size) (i_ b.size) (i_ ((a.size : Int) + b.size)) (i_ ((a.size + b.size + 1 : Nat) : Int)) (Il (List.replicate (a.size + b.size + 1) 0)) a.size 0 _ (by omega) List.length_replicate (dig_replicate (by decide) _) (by rw [val_replicate]; simp [val])
 exact rp (pu_len_s under_s a) (rp (pu_len_s under_s b) (rp p1 (rp p2 (rp p3 (rl lp)))))
def tbR6 : Tb := [(118, F_mul), (100, F_from)] ++ tbR5
theorem okR6 : TbOk Tryz.prog X.G tbR6 := .cons (by kernel_rfl) r_mul (.cons (by kernel_rfl) r_of okR5)
theorem cmpI_le {x y : Nat} : cmpI x y ≤ 0 ↔ x ≤ y := by
 unfold cmpI
 split
 ·omega
 ·split <;> omega
theorem V_head (a : ByteArray) (i m : Nat) (h : i < a.size) : V (a.extract i (i + 1) ++ N m) = (rd (bytesOf a) i).toNat + 256 * m := by
 have h1 := V_int (a.extract i (i + 1) ++ N m)
 have h2 := bdig a i
 rw [bytes_append, bytes_extract, bytes_N, val_append, val_nb, drop_cons _ _ (by rw [bytesOf_length]; exact h), show i + 1 - i = 0 + 1 by omega, List.take_succ_cons, List.take_zero, val_single] at h1
 simp only [List.length_cons, List.length_nil, Nat.zero_add, Int.pow_succ, Int.pow_zero, Int.one_mul] at h1
 omega
theorem V_byte {n : Nat} (h : n < 256) : V (strOfNums [(n : Int)]) = n := by
 have := V_str (dig_cons.2 ⟨(by omega : 0 ≤ (n : Int) ∧ (n : Int) < 256), dig_nil _⟩)
 rw [val_single] at this
 omega
theorem mul_byte {b : ByteArray} (hb : b.size ≤ 20000) {n : Nat} (h : n < 256) : F_mul [s_ b, s_ (strOfNums [(n : Int)])] = some [s_ (N (V b * n))] := by
 have := S2.eq (lim := 20000) (g := fun x y => [D.v (Value.string (N (x * y)))]) (a := b) (b := strOfNums [(n : Int)]) hb (by rw [size_str, List.length_singleton]; decide)
 rw [V_byte h] at this
 exact this
theorem rdiv_find (a b : ByteArray) (hb : b.size ≤ 20000) (e2 e3 e4 e5 e6 e7 e8 e11 e12 e13 e14 : D) (quot : List Int) (X i q M : Nat) (hX : (N X).size ≤ 20001) (hq : q < 256) (hmq : ∀ m, V b * m ≤ X ↔ m ≤ q) (hM : X - V b * q = M) (hi : i < quot.length) (hl : quot.length ≤ 20000) (R : List D)
  (K : Rn Tryz.prog (cfOf tbR6) t_voussoirref01_Div_l0 [t_voussoirref01_Div_l0] [s_ a, s_ b, e2, e3, e4, e5, e6, e7, s_ (N M), i_ ((i : Int) - 1), Bl (quot.set i (q : Int))] R) (r : Nat) : ∀ (lo hi : Nat), lo + r = hi → hi ≤ 255 → lo ≤ q → q ≤ hi →
  Rn Tryz.prog (cfOf tbR6) t_voussoirref01_Div_l1 [t_voussoirref01_Div_l0, t_voussoirref01_Div_l1] [s_ a, s_ b, e2, e3, e4, e5, e6, e7, e8, i_ i, Bl quot, e11, e12, e13, e14, s_ (N X), i_ lo, i_ hi] R := by
 induction r using Nat.strongRecOn with
 | _ r ih =>
  intro lo hi' hr hh h1 h2
  by_cases hlt : lo < hi'
  ·obtain ⟨mid, hm⟩ : ∃ mid, mid = (lo + hi' + 1) / 2 := ⟨_, rfl⟩
   have m1 : mid < 256 ∧ lo < mid ∧ mid ≤ hi' := by omega
   have hsm : (N (V b * mid)).size ≤ 100000 := by
    have := (N_size (V b * mid) (b.size + 1)).2 (by rw [Nat.pow_succ]; exact Nat.mul_lt_mul'' (V_lt b) m1.1)
    omega
   have p1 := pu_ad (P := Tryz.prog) 3 false (lo : Int) (hi' : Int) (by omega)
   have p2 := pu_ad (P := Tryz.prog) 3 true ((lo : Int) + hi') 1 (by omega)
   have p3 := pu_qu (P := Tryz.prog) 3 true ((lo : Int) + hi' + 1) 2 (by omega) (by decide)
   rw [show ((lo : Int) + hi' + 1) / 2 = (mid : Int) by omega] at p3
   have p4 := pu_cv8 (P := Tryz.prog) under_y .i64 (mid : Int) under_i (by omega)
   have p5 := pu_bstr (P := Tryz.prog) [(mid : Int)]
   have c1 := mul_byte hb m1.1
   have c2 : F_cmp5 [s_ (N (V b * mid)), s_ (N X)] = some [i_ (cmpI (V b * mid) X)] := S2.eqN hsm (by omega)
   by_cases hc : mid ≤ q
   ·have next := ih (hi' - mid) (by omega) mid hi' (by omega) hh hc h2
    exact rT (by omega) (pu_lt_i 3 false .i64 lo hi') (rp p1 (rp p2 (rp p3 (rp p4 (rp p5 (rc F_mul c1 (rc F_cmp5 c2 (rT (cmpI_le.2 ((hmq mid).2 hc)) (pu_le_i 3 true .i64 (cmpI (V b * mid) X) 0) (ra next)))))))))
   ·have next := ih (mid - 1 - lo) (by omega) lo (mid - 1) (by omega) (by omega) h1 (by omega)
    have p6 := pu_sb (P := Tryz.prog) 3 true (mid : Int) 1 (by omega)
    rw [show (mid : Int) - 1 = ((mid - 1 : Nat) : Int) by omega] at p6
    exact rT (by omega) (pu_lt_i 3 false .i64 lo hi') (rp p1 (rp p2 (rp p3 (rp p4 (rp p5 (rc F_mul c1 (rc F_cmp5 c2 (rF (fun e => hc ((hmq mid).1 (cmpI_le.1 e))) (pu_le_i 3 true .i64 (cmpI (V b * mid) X) 0) (rp p6 (ra next))))))))))
  ·have e : lo = q := by omega
   subst e
   have hle : V b * lo ≤ X := (hmq lo).2 (Nat.le_refl _)
   have hs : (N (V b * lo)).size ≤ 20001 := Nat.le_trans ((N_size _ (N X).size).2 (Nat.lt_of_le_of_lt hle ((N_size X _).1 (Nat.le_refl _)))) hX
   have c3 : F_sub5 [s_ (N X), s_ (N (V b * lo))] = some [s_ (N M), b_ true] := by
    have h3 : F_sub5 [s_ (N X), s_ (N (V b * lo))] = some [s_ (subR X (V b * lo)).1, b_ (subR X (V b * lo)).2] := S2.eqN (by omega) (by omega)
    unfold subR at h3
    rw [if_neg (by omega), hM] at h3
    exact h3
   have p4 := pu_cv8 (P := Tryz.prog) under_y .i64 (lo : Int) under_i (by omega)
   have p5 := pu_bstr (P := Tryz.prog) [(lo : Int)]
   exact rF (by omega) (pu_lt_i 3 false .i64 lo hi') (rp p4 (rp p5 (rc F_mul (mul_byte hb hq) (rc F_sub5 c3 (rp p4 (rp (pu_chk y_ quot i (by omega) .i64) (rp (pu_set y_ quot i (by omega) .i64 (lo : Int)) (rp (pu_sb 3 true (i : Int) 1 (by omega)) (ra K)))))))))
theorem rdiv_loop (a b : ByteArray) (ha : a.size ≤ 20000) (hb : b.size ≤ 20000) (hb0 : 0 < V b) (e2 e3 e4 e5 e6 e7 : D) (r : Nat) : ∀ (quot : List Int) (p : Nat), r ≤ a.size → quot.length = a.size → Dig 256 quot → p < V b →
  val 256 ((bytesOf a).drop r) = val 256 (quot.drop r) * V b + p → Rn Tryz.prog (cfOf tbR6) t_voussoirref01_Div_l0 [t_voussoirref01_Div_l0] [s_ a, s_ b, e2, e3, e4, e5, e6, e7, s_ (N p), i_ ((r : Int) - 1), Bl quot] [s_ (N (V a / V b)), s_ (N (V a % V b)), b_ true] := by
 induction r with
 | zero =>
  intro quot p hr hl hd hp hv
  rw [List.drop_zero, List.drop_zero, ← V_int] at hv
  have h0 := val_nonneg (by decide) hd
  obtain ⟨Q, hQ⟩ := Int.eq_ofNat_of_zero_le h0
  rw [hQ] at hv
  have h2 : V a = V b * Q + p := by
   rw [← Int.natCast_mul] at hv
   have := Nat.mul_comm (V b) Q
   omega
  rw [h2, Nat.mul_add_div hb0, Nat.div_eq_of_lt hp, Nat.add_zero, Nat.mul_add_mod, Nat.mod_eq_of_lt hp]
  exact rF (by omega) (pu_ge_i 3 true .i64 (((0 : Nat) : Int) - 1) 0) (rp (pu_str quot) (rc F_norm5 (norm_str hd (by omega) hQ) rr))
 | succ r ih =>
  intro quot p hr hl hd hp hv
  have hb1 := bdig a r
  have hps : (N p).size ≤ b.size := N_size_V (Nat.le_of_lt hp)
  have hes : (a.extract r (r + 1)).size = 1 := by rw [ByteArray.size_extract]; omega
  obtain ⟨X, hX⟩ : ∃ X, X = (rd (bytesOf a) r).toNat + 256 * p := ⟨_, rfl⟩
  have hXl : X < 256 * V b := by omega
  have hXs : (N X).size ≤ b.size + 1 := (N_size X _).2 (by
   have := V_lt b
   rw [Nat.pow_succ]
   omega)
  have c1 : F_norm5 [s_ (a.extract r (r + 1) ++ N p)] = some [s_ (N X)] := by
   have h1 : F_norm5 [s_ (a.extract r (r + 1) ++ N p)] = some [s_ (N (V (a.extract r (r + 1) ++ N p)))] := S1.eq (by rw [ByteArray.size_append, hes]; omega)
   rw [V_head a r p (by omega), ← hX] at h1
   exact h1
  have hq : X / V b < 256 := Nat.div_lt_of_lt_mul (by rw [Nat.mul_comm]; exact hXl)
  obtain ⟨q, hQ⟩ : ∃ q, q = X / V b := ⟨_, rfl⟩
  obtain ⟨M, hM⟩ : ∃ M, M = X % V b := ⟨_, rfl⟩
  have h3 : V b * q + M = X := by rw [hQ, hM]; exact Nat.div_add_mod _ _
  have hMl : M < V b := by rw [hM]; exact Nat.mod_lt _ hb0
  have hmq : ∀ m, V b * m ≤ X ↔ m ≤ q := fun m => by rw [hQ, Nat.mul_comm]; exact (Nat.le_div_iff_mul_le hb0).symm
  rw [← hQ] at hq
  clear hQ hM
  have es : ((r + 1 : Nat) : Int) - 1 = (r : Int) := by omega
  rw [es]
  have p1 := pu_ad (P := Tryz.prog) 3 true (r : Int) 1 (by omega)
  have p2 := pu_slc (P := Tryz.prog) under_s a .i64 .i64 r (r + 1) (by omega) hr
  have p3 := pu_add_s (P := Tryz.prog) 9 false (a.extract r (r + 1)) (N p) (by omega)
  have find := rdiv_find a b hb e2 e3 e4 e5 e6 e7 (s_ (N p)) (b_ true) (i_ ((r + 1 : Nat) : Int)) (s_ (a.extract r (r + 1))) (s_ (a.extract r (r + 1) ++ N p)) quot X r q M (by omega) hq hmq (by omega) (by omega) (by omega) [s_ (N (V a / V b)), s_ (N (V a % V b)), b_ true] ?_ 255 0 255 (by omega) (by omega) (by omega) (by omega)
  ·exact rT (by omega) (pu_ge_i 3 true .i64 (r : Int) 0) (rp p1 (rp p2 (rp p3 (rc F_norm5 c1 (rl find)))))
  refine ih (quot.set r (q : Int)) M (by omega) (by rw [List.length_set, hl]) (dig_set hd _ (by omega) (by omega)) hMl ?_
  rw [drop_cons (bytesOf a) r (by rw [bytesOf_length]; omega), val, drop_set_self _ _ _ (by omega), val, hv]
  have h2 : (X : Int) = rd (bytesOf a) r + 256 * p := by omega
  have h4 : ((V b * q + M : Nat) : Int) = X := by rw [h3]
  rw [Int.natCast_add, Int.natCast_mul] at h4
  clear h3 hmq ih hXl hXs hMl p1 p2 p3 c1
  generalize val 256 (quot.drop (r + 1)) = Z
  generalize (V b : Int) = D at *
  generalize rd (bytesOf a) r = x at *
  generalize (q : Int) = q at *
  generalize (M : Int) = M at *
  generalize (p : Int) = p at *
  generalize (X : Int) = X at *
  grind
theorem nil_N {x : Nat} : N x = (⟨#[]⟩ : ByteArray) ↔ x = 0 := by rw [← N_zero, N_inj]
theorem r_div : Sx.Good Tryz.prog X.G 104 ⟨[.one, .one], .tup [.one, .one, .one]⟩ F_div := good_tree okR6 (fun _ _ => X.G_below) 400 (by kernel_rfl) (by kernel_rfl : _ = some t_voussoirref01_Div) fun ds rs h => by
 obtain ⟨a, b, rfl, ha, hb, rfl⟩ := S2.inv h
 have c1 : F_norm5 [s_ b] = some [s_ (N (V b))] := S1.eq (by omega)
 unfold divR
 by_cases h : V b = 0
 ·rw [if_pos h]
  exact rc F_norm5 c1 (rT (nil_N.2 h) (pu_eq_s 9 true (N (V b)) ⟨#[]⟩) rr)
 ·rw [if_neg h]
  have p3 := pu_mk (P := Tryz.prog) (fun x => .int .u8 x) 1 a.size (by omega) (by omega) .i64 .i64
  have lp := rdiv_loop a b ha hb (by omega) (s_ (N (V b))) (b_ false) (i_ a.size) (Bl (List.replicate a.size 0)) (i_ a.size) (i_ ((a.size : Int) - 1)) a.size _ 0 (Nat.le_refl _) List.length_replicate (dig_replicate (by decide) _) (by omega) (by rw [List.drop_eq_nil_of_le (by rw [bytesOf_length]; exact Nat.le_refl _), List.drop_eq_nil_of_le (by rw [List.length_replicate]; exact Nat.le_refl _)]; simp [val])
  rw [N_zero] at lp
  exact rc F_norm5 c1 (rF (fun e => h (nil_N.1 e)) (pu_eq_s 9 true (N (V b)) ⟨#[]⟩) (rp (pu_len_s under_s a) (rp p3 (rp (pu_len_s under_s a) (rp (pu_sb 3 true (a.size : Int) 1 (by omega)) (rl lp))))))
def tbR7 : Tb := (104, F_div) :: tbR6
theorem okR7 : TbOk Tryz.prog X.G tbR7 := .cons (by kernel_rfl) r_div okR6
theorem rgcd_loop (e0 e1 e2 e3 : D) (n : Nat) : ∀ (x y : Nat), y = n → (N x).size ≤ 20000 → (N y).size ≤ 20000 → Rn Tryz.prog (cfOf tbR7) t_voussoirref01_Gcd_l0 [t_voussoirref01_Gcd_l0] [e0, e1, e2, e3, s_ (N x), s_ (N y)] [s_ (N (Nat.gcd x y))] := by
 induction n using Nat.strongRecOn with
 | _ n ih =>
  intro x y hn hx hy
  by_cases h : y = 0
  ·subst h
   rw [Nat.gcd_zero_right]
   exact rF (not_not_intro (nil_N.2 rfl)) (pu_nes 9 true (N 0) ⟨#[]⟩) rr
  ·have h1 : F_div [s_ (N x), s_ (N y)] = some [s_ (divR x y).1, s_ (divR x y).2.1, b_ (divR x y).2.2] := S2.eqN hx hy
   unfold divR at h1
   rw [if_neg h] at h1
   have hlt : x % y < y := Nat.mod_lt _ (by omega)
   have next := ih (x % y) (by omega) y (x % y) rfl hy (Nat.le_trans ((N_size _ (N y).size).2 (Nat.lt_trans hlt ((N_size y _).1 (Nat.le_refl _)))) hy)
   have hg : Nat.gcd y (x % y) = Nat.gcd x y := by rw [Nat.gcd_comm y (x % y), ← Nat.gcd_rec, Nat.gcd_comm]
   rw [hg] at next
   exact rT (mt nil_N.1 h) (pu_nes 9 true (N y) ⟨#[]⟩) (rc F_div h1 (ra next))
theorem r_gcd : Sx.Good Tryz.prog X.G 68 ⟨[.one, .one], .v1 .one⟩ F_gcd := good_tree okR7 (fun _ _ => X.G_below) 400 (by kernel_rfl) (by kernel_rfl : _ = some t_voussoirref01_Gcd) fun ds rs h => by
 obtain ⟨a, b, rfl, ha, hb, rfl⟩ := S2.inv h
 have c1 : F_norm5 [s_ a] = some [s_ (N (V a))] := S1.eq (by omega)
 have c2 : F_norm5 [s_ b] = some [s_ (N (V b))] := S1.eq (by omega)
 exact rc F_norm5 c1 (rc F_norm5 c2 (rl (rgcd_loop (s_ a) (s_ b) (s_ (N (V a))) (s_ (N (V b))) _ (V a) (V b) rfl (N_small ha) (N_small hb))))
def tbR : Tb := [(59, F_norm), (134, F_cmp), (98, F_add), (118, F_mul), (120, F_sub), (104, F_div), (68, F_gcd), (100, F_from)]
theorem okR : TbOk Tryz.prog X.G tbR := .cons (by kernel_rfl) (good_weak r_norm (S1.weak (by decide))) <| .cons (by kernel_rfl) (good_weak r_cmp (S2.weak (by decide))) <| .cons (by kernel_rfl) r_add <| .cons (by kernel_rfl) r_mul <| .cons (by kernel_rfl) (good_weak r_sub (S2.weak (by decide))) <| .cons (by kernel_rfl) r_div <| .cons (by kernel_rfl) r_gcd <| .cons (by kernel_rfl) r_of <| trivial
end Go.Proofs.YtliabkapejhohaaGreatDoor.Sp
namespace Go.Proofs.YtliabkapejhohaaGreatDoor.Sp
open Go Go.RowKit Go.Proofs.YtliabkapejhohaaGreatDoor.Sx Go.Proofs.YtliabkapejhohaaGreatDoor.NatA Go.Proofs.YtliabkapejhohaaGreatDoor.NatB Go.Proofs.YtliabkapejhohaaGreatDoor.NatC Go.Proofs.YtliabkapejhohaaGreatDoor.NatD Go.Proofs.YtliabkapejhohaaGreatDoor.NatI Go.Proofs.YtliabkapejhohaaGreatDoor.NatJ Go.Proofs.YtliabkapejhohaaGreatDoor.IntZ Go.Proofs.YtliabkapejhohaaGreatDoor.RatZ
theorem sgn_pos {z : Int} : sgn z > 0 ↔ z > 0 := by
 unfold sgn
 split
 ·omega
 ·split <;> omega
theorem sgn_neg {z : Int} : sgn z < 0 ↔ z < 0 := by
 unfold sgn
 split
 ·omega
 ·split <;> omega
theorem Sz.sg {s : Nat} {x : Nat} (b : Bool) (h : (N x).size ≤ s) : Sz s (sg b x) := by
 show (N (IntZ.sg b x).natAbs).size ≤ s
 rw [natAbs_sg]
 exact h
theorem r_iof : Sx.Good Tryz.prog X.G 60 ⟨[.one, .one], .v1 (.agg 2)⟩ F_inorm := good_tree okR (fun _ _ => X.G_below) 400 (by kernel_rfl) (by kernel_rfl : _ = some t_voussoirref02_of) fun ds rs h => by
 obtain ⟨n, a, rfl, ha, rfl⟩ := I1.inv h
 refine ⟨0, go_call F_norm rfl rfl (S1.eq (by omega)) rfl ?_⟩
 show _ = some (enc (sg n (V a)))
 generalize NatA.V a = x
 refine go_ite rfl (fun h => ?_) (fun h => ?_)
 ·subst h
  refine go_pure rfl (pu_ne_s _ _ _ _) (go_ret ?_)
  show some [b_ (!decide (N x = (⟨#[]⟩ : ByteArray))), s_ (N x)] = some [b_ (I (sg true x)).1, s_ (I (sg true x)).2]
  rw [enc_true, enc_abs]
 ·subst h
  refine go_ret ?_
  show some [b_ false, s_ (N x)] = some [b_ (I (sg false x)).1, s_ (I (sg false x)).2]
  rw [enc_abs, enc_false]
def tbS0 : Tb := (60, F_inorm) :: tbR
theorem okS0 : TbOk Tryz.prog X.G tbS0 := .cons (by kernel_rfl) r_iof okR
theorem r_inorm : Sx.Good Tryz.prog X.G 65 ⟨[.agg 2], .v1 (.agg 2)⟩ F_inorm := good_tree okS0 (fun _ _ => X.G_below) 400 (by kernel_rfl) (by kernel_rfl : _ = some t_voussoirref02_Norm) fun ds rs h => by
 obtain ⟨n, a, rfl, ha, rfl⟩ := I1.inv h
 exact ⟨0, go_call F_inorm rfl rfl (I1.eq ha) rfl (go_ret rfl)⟩
def tbS1 : Tb := (65, F_inorm) :: tbS0
theorem okS1 : TbOk Tryz.prog X.G tbS1 := .cons (by kernel_rfl) r_inorm okS0
theorem r_ineg : Sx.Good Tryz.prog X.G 93 ⟨[.agg 2], .v1 (.agg 2)⟩ F_ineg := good_tree okS1 (fun _ _ => X.G_below) 400 (by kernel_rfl) (by kernel_rfl : _ = some t_voussoirref02_Neg) fun ds rs h => by
 obtain ⟨n, a, rfl, ha, rfl⟩ := I1.inv h
 refine ⟨0, go_pure rfl (pu_not _) (go_call F_inorm rfl rfl (I1.eq ha) rfl (go_ret ?_))⟩
 show some (enc (sg (!n) (V a))) = some (enc (-sg n (V a)))
 rw [sg_not]
def tbS2 : Tb := (93, F_ineg) :: tbS1
theorem okS2 : TbOk Tryz.prog X.G tbS2 := .cons (by kernel_rfl) r_ineg okS1
theorem r_iadd : Sx.Good Tryz.prog X.G 92 ⟨[.agg 2, .agg 2], .v1 (.agg 2)⟩ F_iadd := good_tree okS2 (fun _ _ => X.G_below) 400 (by kernel_rfl) (by kernel_rfl : _ = some t_voussoirref02_Add) fun ds rs h => by
 obtain ⟨n, a, m, b, rfl, ha, hb, rfl⟩ := I2.inv h
 have sA : (N (V a + V b)).size ≤ 9001 := N_size_add a b (s := 9000) ha hb
 have sa : (N (V a - V b)).size ≤ 9000 := Nat.le_trans (N_size_V (Nat.sub_le _ _)) ha
 have sb : (N (V b - V a)).size ≤ 9000 := Nat.le_trans (N_size_V (Nat.sub_le _ _)) hb
 refine ⟨0, go_pure rfl (pu_eq_b _ _ _ _ under_bool) ?_⟩
 show _ = some (enc (sg n (V a) + sg m (V b)))
 refine go_ite rfl (fun e => ?_) (fun e => ?_)
 ·obtain rfl : n = m := by simpa using e
  refine go_call F_add rfl rfl (S2.eq (by omega) (by omega)) rfl (go_call F_inorm rfl rfl (I1.eq (by omega)) rfl (go_ret ?_))
  show some (enc (sg n (V (N (V a + V b))))) = _
  rw [V_N, sg_add_same]
 ·obtain rfl : m = !n := ne_not (by rw [e]; decide)
  refine go_call F_sub rfl rfl (S2.eq (by omega) (by omega)) rfl ?_
  by_cases hl : V a < V b
  ·unfold subR
   rw [if_pos hl]
   refine go_false rfl (go_call F_sub rfl rfl (S2.eq (by omega) (by omega)) rfl ?_)
   unfold subR
   rw [if_neg (by omega)]
   refine go_call F_inorm rfl rfl (I1.eq (Nat.le_trans sb (by decide))) rfl (go_ret ?_)
   have e2 := sg_sub_other (!n) (V b) (V a) (by omega)
   rw [Bool.not_not, Int.add_comm] at e2
   show some (enc (sg (!n) (V (N (V b - V a))))) = _
   rw [V_N, e2]
  ·unfold subR
   rw [if_neg hl]
   refine go_true rfl (go_call F_inorm rfl rfl (I1.eq (Nat.le_trans sa (by decide))) rfl (go_ret ?_))
   show some (enc (sg n (V (N (V a - V b))))) = _
   rw [V_N, sg_sub_other n _ _ (by omega)]
def tbS3 : Tb := (92, F_iadd) :: tbS2
theorem okS3 : TbOk Tryz.prog X.G tbS3 := .cons (by kernel_rfl) r_iadd okS2
theorem r_isub : Sx.Good Tryz.prog X.G 108 ⟨[.agg 2, .agg 2], .v1 (.agg 2)⟩ F_isub := good_tree okS3 (fun _ _ => X.G_below) 400 (by kernel_rfl) (by kernel_rfl : _ = some t_voussoirref02_Sub) fun ds rs h => by
 obtain ⟨n, a, m, b, rfl, ha, hb, rfl⟩ := I2.inv h
 have s2 : Sz 9000 (Z m b) := .of hb
 exact ⟨0, go_call F_ineg rfl rfl (I1.eq (by omega)) rfl (go_call F_iadd rfl rfl (I2.left ha s2.neg) rfl (go_ret rfl))⟩
def tbS4 : Tb := (108, F_isub) :: tbS3
theorem okS4 : TbOk Tryz.prog X.G tbS4 := .cons (by kernel_rfl) r_isub okS3
theorem r_imul : Sx.Good Tryz.prog X.G 87 ⟨[.agg 2, .agg 2], .v1 (.agg 2)⟩ F_imul := good_tree okS4 (fun _ _ => X.G_below) 400 (by kernel_rfl) (by kernel_rfl : _ = some t_voussoirref02_Mul) fun ds rs h => by
 obtain ⟨n, a, m, b, rfl, ha, hb, rfl⟩ := I2.inv h
 have sm : (N (V a * V b)).size ≤ 18000 := Nat.le_trans (N_size_mul a b) (by omega)
 refine ⟨0, go_pure rfl (pu_ne_b _ _ _ _ under_bool) (go_call F_mul rfl rfl (S2.eq (by omega) (by omega)) rfl (go_call F_inorm rfl rfl (I1.eq (by omega)) rfl (go_ret ?_)))⟩
 show some (enc (sg (n != m) (V (N (V a * V b))))) = some (enc (sg n (V a) * sg m (V b)))
 rw [V_N, sg_mul]
def tbS5 : Tb := (87, F_imul) :: tbS4
theorem okS5 : TbOk Tryz.prog X.G tbS5 := .cons (by kernel_rfl) r_imul okS4
theorem r_isign : Sx.Good Tryz.prog X.G 79 ⟨[.agg 2], .v1 .one⟩ F_isign := good_tree okS5 (fun _ _ => X.G_below) 400 (by kernel_rfl) (by kernel_rfl : _ = some t_voussoirref02_Sign) fun ds rs h => by
 obtain ⟨n, a, rfl, ha, rfl⟩ := I1.inv h
 refine ⟨0, go_call F_norm rfl rfl (S1.eq (by omega)) rfl ?_⟩
 show _ = some [i_ (sgn (sg n (V a)))]
 rw [sgn_sg]
 generalize NatA.V a = x
 refine go_pure rfl (pu_eq_s _ _ _ _) ?_
 refine go_ite rfl (fun h => ?_) (fun h => ?_)
 ·rw [if_pos (N_nil.1 (of_decide_eq_true h))]
  exact go_ret rfl
 ·rw [if_neg (fun e => of_decide_eq_false h (N_nil.2 e))]
  refine go_ite rfl (fun h => ?_) (fun h => ?_)
  ·rw [if_pos h]
   exact go_ret rfl
  ·rw [if_neg (by rw [h]; decide)]
   exact go_ret rfl
def tbS6 : Tb := (79, F_isign) :: tbS5
theorem okS6 : TbOk Tryz.prog X.G tbS6 := .cons (by kernel_rfl) r_isign okS5
theorem r_ifrom : Sx.Good Tryz.prog X.G 88 ⟨[.one], .v1 (.agg 2)⟩ F_ifrom := good_tree okS6 (fun _ _ => X.G_below) 400 (by kernel_rfl) (by kernel_rfl : _ = some t_voussoirref02_From) fun ds rs h => by
 obtain ⟨n, rfl, h0, h1, rfl⟩ := F_ifrom.inv h
 refine ⟨0, go_pure rfl (pu_lt_i _ _ _ _ _) ?_⟩
 have w64 : ∀ i : Int, -9223372036854775808 ≤ i → i ≤ 9223372036854775807 → IntKind.i64.wrap i = i := fun i h0 h1 => by rw [IntKind.wrap_i64]; omega
 have wu : ∀ i : Int, 0 ≤ i → i < 18446744073709551616 → IntKind.u64.wrap i = i := fun i h0 h1 => by rw [IntKind.wrap_u64]; omega
 have sx : ∀ x : Nat, x < 18446744073709551616 → (N x).size ≤ 19000 := fun x h => Nat.le_trans ((N_size x 8).2 (by omega)) (by decide)
 refine go_ite rfl (fun h => ?_) (fun h => ?_)
 ·have h := of_decide_eq_true h
  obtain ⟨x, hx⟩ : ∃ x : Nat, -n = x := ⟨(-n).toNat, by omega⟩
  refine go_pure rfl (pu_add_i _ _ _ _ _) (go_pure rfl (pu_neg_i _ _) (go_pure rfl (pu_conv under_u64 _ _ under_i64) (go_pure rfl (pu_add_i _ _ _ _ _) ?_)))
  rw [w64 (n + 1) (by omega) (by omega), w64 (0 - (n + 1)) (by omega) (by omega), wu (0 - (n + 1)) (by omega) (by omega), wu _ (by omega) (by omega), show 0 - (n + 1) + 1 = (x : Int) by omega]
  refine go_call F_from rfl rfl (F_from.eq (by omega)) rfl (go_call F_inorm rfl rfl (I1.eq (sx x (by omega))) rfl (go_ret ?_))
  show some (enc (sg true (V (N x)))) = _
  rw [V_N, show n = sg true x by unfold sg; rw [if_pos rfl]; omega]
 ·have h := of_decide_eq_false h
  obtain ⟨x, rfl⟩ := Int.eq_ofNat_of_zero_le (show 0 ≤ n by omega)
  refine go_pure rfl (pu_conv under_u64 _ _ under_i64) ?_
  rw [wu _ (by omega) (by omega)]
  refine go_call F_from rfl rfl (F_from.eq (by omega)) rfl (go_call F_inorm rfl rfl (I1.eq (sx x (by omega))) rfl (go_ret ?_))
  show some (enc (sg false (V (N x)))) = _
  rw [V_N]
  rfl
def tbS7 : Tb := (88, F_ifrom) :: tbS6
theorem okS7 : TbOk Tryz.prog X.G tbS7 := .cons (by kernel_rfl) r_ifrom okS6
set_option maxHeartbeats 2000000 in
theorem r_idiv : Sx.Good Tryz.prog X.G 76 ⟨[.agg 2, .agg 2], .tup [.agg 2, .agg 2, .one]⟩ F_idiv := good_tree okS7 (fun _ _ => X.G_below) 400 (by kernel_rfl) (by kernel_rfl : _ = some t_voussoirref02_Div) fun ds rs h => by
 obtain ⟨n1, a, n2, b, rfl, ha, hb, rfl⟩ := I2.inv h
 have vb := V_lt b
 have s1 : (N (V a / V b)).size ≤ 9000 := size_div a _ ha
 have s2 : (N (V a % V b)).size ≤ 9000 := size_mod a _ ha
 have s3 : (N (V b)).size ≤ 9000 := N_small hb
 have z2 : Z n2 b = sg n2 (V b) := rfl
 have zf : Z false b = sg false (V b) := rfl
 refine ⟨0, go_call F_div rfl rfl (S2.eq (by omega) (by omega)) rfl ?_⟩
 show _ = some (gdiv (sg n1 (V a)) (sg n2 (V b)))
 have sgb := I1.eq (lim := 19000) (g := fun x => [i_ (sgn x)]) (n := n2) (a := b) (by omega)
 have ofb := I1.eq (lim := 19000) (g := enc) (n := false) (a := b) (by omega)
 rw [z2] at sgb
 rw [zf] at ofb
 generalize hA : NatA.V a = A at *
 generalize hB : NatA.V b = B at *
 unfold divR gdiv idivR
 by_cases h0 : B = 0
 ·rw [if_pos h0, if_pos (by rw [h0]; unfold sg; split <;> rfl)]
  exact go_pure rfl (pu_not _) (go_true rfl (go_ret rfl))
 rw [if_neg h0, if_neg (by unfold sg; split <;> omega)]
 have hb0 : 0 < B := by omega
 obtain ⟨q, hq⟩ : ∃ q, q = A / B := ⟨_, rfl⟩
 obtain ⟨r, hr⟩ : ∃ r, r = A % B := ⟨_, rfl⟩
 have hqr : B * q + r = A := by rw [hq, hr]; exact Nat.div_add_mod A B
 have hrl : r < B := by rw [hr]; exact Nat.mod_lt _ hb0
 have hqr' : (A : Int) = (B : Int) * q + r := by rw [← hqr, Int.natCast_add, Int.natCast_mul]
 rw [← hq, ← hr]
 rw [← hq] at s1
 rw [← hr] at s2
 have ofN : ∀ (b : Bool) (x : Nat), (N x).size ≤ 19000 → F_inorm [b_ b, s_ (N x)] = some (enc (sg b x)) := fun b x h => by
  have := I1.eq (lim := 19000) (g := enc) (n := b) (a := N x) h
  unfold Z at this
  rw [V_N] at this
  exact this
 refine go_pure rfl (pu_not _) (go_false rfl (go_call F_inorm rfl rfl (ofN _ r (by omega)) rfl (go_pure rfl (pu_ne_b _ _ _ _ under_bool) (go_call F_inorm rfl rfl (ofN _ q (by omega)) rfl (go_call F_isign rfl rfl (I1.can (Sz.sg n1 (s := 19000) (by omega))) rfl (go_pure rfl (pu_lt_i _ _ _ _ _) ?_))))))
 by_cases hneg : sg n1 r < 0
 ·refine go_true (congrArg (fun x => some (b_ x)) (decide_eq_true (sgn_neg.2 hneg))) (go_call F_inorm rfl rfl ofb rfl ?_)
  have hn1 : n1 = true ∧ r ≠ 0 := by
   unfold sg at hneg
   cases n1
   ·rw [if_neg (by decide)] at hneg; omega
   ·exact ⟨rfl, by rw [if_pos rfl] at hneg; omega⟩
  obtain ⟨rfl, hr0⟩ := hn1
  have e := ediv_sg (x := sg true A) (q := -((q + 1 : Nat) : Int)) (r := ((B - r : Nat) : Int)) (b := n2) hb0 (by show -(A : Int) = _; rw [hqr', Int.mul_neg, Int.natCast_add, Int.mul_add]; omega) (by omega) (by omega)
  have i1 : Sz 9000 (sg true r) := Sz.sg _ s2
  have i2 : Sz 9000 (sg false B) := Sz.sg _ s3
  have i4 : Sz 9000 1 := (Sz.i64 (by decide) (by decide)).le (by decide)
  refine go_call F_iadd rfl rfl (I2.can i1 i2) rfl ?_
  rw [show sg true r + sg false B = ((B - r : Nat) : Int) by show -(r : Int) + (B : Int) = _; omega]
  refine go_call F_isign rfl rfl sgb rfl (go_pure rfl (pu_gt_i _ _ _ _ _) ?_)
  rw [e.1, e.2]
  cases n2 with
  | false =>
   refine go_true (congrArg (fun x => some (b_ x)) (decide_eq_true (sgn_pos.2 (by show (B : Int) > 0; omega)))) (go_call F_ifrom rfl rfl (F_ifrom.eq (by decide) (by decide)) rfl (go_call F_isub rfl rfl (I2.can (Sz.sg _ s1) i4) rfl (go_ret ?_)))
   show some (enc (sg (true != false) q - 1) ++ enc ((B - r : Nat) : Int) ++ [b_ true]) = _
   rw [show sg (true != false) q - 1 = -((q + 1 : Nat) : Int) by show -(q : Int) - 1 = _; omega]
   rfl
  | true =>
   refine go_false (congrArg (fun x => some (b_ x)) (decide_eq_false (by rw [sgn_pos]; show ¬ -(B : Int) > 0; omega))) (go_call F_ifrom rfl rfl (F_ifrom.eq (by decide) (by decide)) rfl (go_call F_iadd rfl rfl (I2.can (Sz.sg _ s1) i4) rfl (go_ret ?_)))
   show some (enc (sg (true != true) q + 1) ++ enc ((B - r : Nat) : Int) ++ [b_ true]) = _
   rw [show sg (true != true) q + 1 = - -((q + 1 : Nat) : Int) by show (q : Int) + 1 = _; omega]
   rfl
 ·refine go_false (congrArg (fun x => some (b_ x)) (decide_eq_false (fun e => hneg (sgn_neg.1 e)))) (go_ret ?_)
  have e := ediv_sg (x := sg n1 A) (q := sg n1 q) (r := sg n1 r) (b := n2) hb0 (by
   have h1 := sg_mul false n1 B q
   have h2 := sg_add_same n1 (B * q) r
   rw [hqr] at h2
   rw [h2, show sg n1 (B * q) = (B : Int) * sg n1 q from by
    have h3 : sg false B = (B : Int) := rfl
    rw [h3] at h1
    rw [h1]
    cases n1 <;> rfl]) (by omega) (by
   unfold sg
   split <;> omega)
  show some (enc (sg (n1 != n2) q) ++ enc (sg n1 r) ++ [b_ true]) = _
  rw [e.1, e.2, show (if n2 = true then -sg n1 q else sg n1 q) = sg (n1 != n2) q by cases n1 <;> cases n2 <;> simp [sg]]
  rfl
def tbS8 : Tb := (76, F_idiv) :: tbS7
theorem okS8 : TbOk Tryz.prog X.G tbS8 := .cons (by kernel_rfl) r_idiv okS7
end Go.Proofs.YtliabkapejhohaaGreatDoor.Sp
namespace Go.Proofs.YtliabkapejhohaaGreatDoor.Sp
open Go Go.RowKit Go.Proofs.YtliabkapejhohaaGreatDoor.Sx Go.Proofs.YtliabkapejhohaaGreatDoor.NatA Go.Proofs.YtliabkapejhohaaGreatDoor.NatB Go.Proofs.YtliabkapejhohaaGreatDoor.NatC Go.Proofs.YtliabkapejhohaaGreatDoor.NatD Go.Proofs.YtliabkapejhohaaGreatDoor.NatI Go.Proofs.YtliabkapejhohaaGreatDoor.NatJ Go.Proofs.YtliabkapejhohaaGreatDoor.IntZ Go.Proofs.YtliabkapejhohaaGreatDoor.RatZ
def F_one : Fct
 | [] => some (enc 1)
 | _ => none
def F_above : Fct := Rc 9000 fun x _ => enc x
def F_below : Fct := Rc 9000 fun _ y => enc y
theorem Z_nat (n : Nat) : Z false (N n) = (n : Int) := by
 unfold Z sg
 rw [if_neg (by decide), V_N]
theorem of_nat {n : Nat} (h : (N n).size ≤ 9000) : F_inorm [b_ false, s_ (N n)] = some (enc (n : Int)) := by
 have := I1.eq (lim := 19000) (g := enc) (n := false) (a := N n) (by omega)
 rw [Z_nat] at this
 exact this
theorem gcd_nil {n : Nat} (h : (N n).size ≤ 9000) : F_gcd [s_ (⟨#[]⟩ : ByteArray), s_ (N n)] = some [s_ (N n)] := by
 have := S2.eqN (lim := 20000) (g := fun x y => [s_ (N (Nat.gcd x y))]) (x := 0) (y := n) (by rw [N_zero]; decide) (by omega)
 rw [N_zero, Nat.gcd_zero_left] at this
 exact this
theorem div_nat {p g : Nat} (hp : (N p).size ≤ 9000) (hs : (N g).size ≤ 9000) (hg : g ≠ 0) : F_idiv ([b_ false, s_ (N p)] ++ enc (g : Int)) = some (enc ((p / g : Nat) : Int) ++ enc ((p % g : Nat) : Int) ++ [b_ true]) := by
 have := I2.left (g := gdiv) (n := false) (y := (g : Int)) hp (by show Sz 9000 (g : Int); unfold Sz; rw [I_nat]; exact hs)
 rw [Z_nat] at this
 refine (show F_idiv _ = _ from this).trans ?_
 unfold gdiv idivR
 rw [if_neg (by omega), ← Int.natCast_ediv, ← Int.natCast_emod]
 rfl
theorem r_one : Sx.Good Tryz.prog X.G 77 ⟨[], .v1 (.agg 2)⟩ F_one := good_tree okS8 (fun _ _ => X.G_below) 400 (by kernel_rfl) (by kernel_rfl : _ = some t_voussoirref03_one) fun ds rs h => by
 unfold F_one at h
 split at h
 ·obtain rfl := Option.some.inj h
  exact ⟨0, go_call F_ifrom rfl rfl (F_ifrom.eq (n := 1) (by decide) (by decide)) rfl (go_ret rfl)⟩
 ·cases h
def tbU0 : Tb := (77, F_one) :: tbS8
theorem okU0 : TbOk Tryz.prog X.G tbU0 := .cons (by kernel_rfl) r_one okS8
theorem r_above : Sx.Good Tryz.prog X.G 74 ⟨[.agg 3], .v1 (.agg 2)⟩ F_above := good_tree okU0 (fun _ _ => X.G_below) 400 (by kernel_rfl) (by kernel_rfl : _ = some t_voussoirref03_above) fun ds rs h => by
 obtain ⟨n, a, b, rfl, ha, hb, rfl⟩ := Rc.inv h
 exact ⟨0, go_call F_inorm rfl rfl (I1.eq (by omega)) rfl (go_ret rfl)⟩
def tbU1 : Tb := (74, F_above) :: tbU0
theorem okU1 : TbOk Tryz.prog X.G tbU1 := .cons (by kernel_rfl) r_above okU0
theorem r_below : Sx.Good Tryz.prog X.G 75 ⟨[.agg 3], .v1 (.agg 2)⟩ F_below := good_tree okU1 (fun _ _ => X.G_below) 400 (by kernel_rfl) (by kernel_rfl : _ = some t_voussoirref03_below) fun ds rs h => by
 obtain ⟨n, a, b, rfl, ha, hb, rfl⟩ := Rc.inv h
 refine ⟨0, go_call F_inorm rfl rfl (I1.eq (by omega)) rfl (go_pure rfl (pu_eq_s _ _ _ _) ?_)⟩
 have ez : Z false b = (V b : Int) := by unfold Z sg; rw [if_neg (by decide)]
 rw [ez, I_nat]
 refine go_ite rfl (fun e => ?_) (fun e => ?_)
 ·have hd : dn b = 1 := if_pos (N_nil.1 (of_decide_eq_true e))
  rw [hd]
  exact go_call F_one rfl rfl rfl rfl (go_ret rfl)
 ·have hd : dn b = (V b : Int) := if_neg fun h => of_decide_eq_false e (N_nil.2 h)
  refine go_ret ?_
  rw [hd]
  show some [b_ false, s_ (N (V b))] = some [b_ (I (V b : Int)).1, s_ (I (V b : Int)).2]
  rw [I_nat]
def tbU2 : Tb := (75, F_below) :: tbU1
theorem okU2 : TbOk Tryz.prog X.G tbU2 := .cons (by kernel_rfl) r_below okU1
set_option maxHeartbeats 2000000 in
theorem r_make : Sx.Good Tryz.prog X.G 28 ⟨[.agg 2, .agg 2], .tup [.agg 3, .one]⟩ F_make := good_tree okU2 (fun _ _ => X.G_below) 400 (by kernel_rfl) (by kernel_rfl : _ = some t_voussoirref03_Make) fun ds rs h => by
 obtain ⟨n, a, m, b, rfl, ha, hb, rfl⟩ := I2.inv h
 have s1 : Sz 9000 (Z n a) := .of ha
 have s2 : Sz 9000 (Z m b) := .of hb
 refine ⟨0, go_call F_inorm rfl rfl (I1.eq (by omega)) rfl (go_call F_inorm rfl rfl (I1.eq (by omega)) rfl (go_pure rfl (pu_eq_s _ _ _ _) ?_))⟩
 generalize Z n a = x at *
 generalize Z m b = y at *
 have s1 : (N x.natAbs).size ≤ 9000 := s1
 have s2 : (N y.natAbs).size ≤ 9000 := s2
 by_cases hy : y = 0
 ·refine go_true (congrArg (fun x => some (b_ x)) (decide_eq_true (N_nil.2 (by omega)))) (go_ret ?_)
  rw [hy, Rat.divInt_zero, encR_zero]
  rfl
 have hq : y.natAbs ≠ 0 := by omega
 refine go_false (congrArg (fun x => some (b_ x)) (decide_eq_false fun h => hq (N_nil.1 h))) (go_pure rfl (pu_ne_b _ _ _ _ under_bool) (go_call F_gcd rfl rfl (gcd_nil s1) rfl (go_call F_gcd rfl rfl (S2.eqN (by omega) (by omega)) rfl ?_)))
 have hg : Nat.gcd x.natAbs y.natAbs ≠ 0 := fun h => hq (Nat.gcd_eq_zero_iff.1 h).2
 have hgs : (N (Nat.gcd x.natAbs y.natAbs)).size ≤ 9000 := Nat.le_trans ((N_size _ (N y.natAbs).size).2 (Nat.lt_of_le_of_lt (gcd_le_right hq) ((N_size _ _).1 (Nat.le_refl _)))) s2
 refine go_call F_inorm rfl rfl (of_nat hgs) rfl (go_call F_idiv rfl rfl (div_nat s1 hgs hg) rfl (go_call F_idiv rfl rfl (div_nat s2 hgs hg) rfl (go_pure rfl (pu_eq_s _ _ _ _) ?_)))
 rw [decide_eq_false hy]
 by_cases hx : x = 0
 ·have e1 : x.natAbs / Nat.gcd x.natAbs y.natAbs = 0 := by rw [hx]; exact Nat.zero_div _
  have e2 : y.natAbs / Nat.gcd x.natAbs y.natAbs = 1 := by
   rw [hx]
   show y.natAbs / Nat.gcd 0 y.natAbs = 1
   rw [Nat.gcd_zero_left]
   exact Nat.div_self (by omega)
  refine go_true (congrArg (fun x => some (b_ x)) (decide_eq_true (N_nil.2 e1))) (go_call F_one rfl rfl rfl rfl ?_)
  refine go_pure rfl (eq_int false ((y.natAbs / Nat.gcd x.natAbs y.natAbs : Nat) : Int) 1) (go_true (congrArg (fun x => some (b_ x)) (decide_eq_true (by rw [e2]; rfl))) (go_ret ?_))
  show some [b_ false, s_ (N (x.natAbs / Nat.gcd x.natAbs y.natAbs)), s_ (⟨#[]⟩ : ByteArray), b_ true] = _
  rw [e1, hx, Rat.zero_divInt, encR_zero, N_zero]
  rfl
 ·have hp : x.natAbs ≠ 0 := by omega
  have h : x.natAbs / Nat.gcd x.natAbs y.natAbs ≠ 0 := by
   have h1 : Nat.gcd x.natAbs y.natAbs ≤ x.natAbs := Nat.le_of_dvd (by omega) (Nat.gcd_dvd_left _ _)
   have h2 := Nat.div_pos h1 (by omega)
   omega
  refine go_false (congrArg (fun x => some (b_ x)) (decide_eq_false fun e => h (N_nil.1 e))) (go_call F_one rfl rfl rfl rfl ?_)
  have e3 := eq_int false ((y.natAbs / Nat.gcd x.natAbs y.natAbs : Nat) : Int) 1
  have e := encR_div (decide (x < 0)) (decide (y < 0)) hp hq
  rw [sg_self, sg_self] at e
  rw [e]
  unfold dnc
  refine go_pure rfl e3 (go_ite rfl (fun h1 => ?_) (fun h1 => ?_))
  ·have h1 := of_decide_eq_true h1
   rw [if_pos (by omega)]
   exact go_ret rfl
  ·have h1 := of_decide_eq_false h1
   rw [if_neg (by omega)]
   exact go_ret rfl
def tbU3 : Tb := (28, F_make) :: tbU2
theorem okU3 : TbOk Tryz.prog X.G tbU3 := .cons (by kernel_rfl) r_make okU2
theorem r_rnorm : Sx.Good Tryz.prog X.G 30 ⟨[.agg 3], .v1 (.agg 3)⟩ F_rnorm := good_tree okU3 (fun _ _ => X.G_below) 400 (by kernel_rfl) (by kernel_rfl : _ = some t_voussoirref03_Norm) fun ds rs h => by
 obtain ⟨n, a, b, rfl, ha, hb, rfl⟩ := R1.inv h
 have s1 : Sz 9000 (Z n a) := .of ha
 have s2 : Sz 9000 (dn b) := .dn hb (by decide)
 exact ⟨0, go_call F_above rfl rfl (Rc.eq (by omega) (by omega)) rfl (go_call F_below rfl rfl (Rc.eq (by omega) (by omega)) rfl (go_call F_make rfl rfl (I2.can s1 s2) rfl (go_ret rfl)))⟩
def tbU4 : Tb := (30, F_rnorm) :: tbU3
theorem okU4 : TbOk Tryz.prog X.G tbU4 := .cons (by kernel_rfl) r_rnorm okU3
theorem r_parts : Sx.Good Tryz.prog X.G 27 ⟨[.agg 3], .tup [.agg 2, .agg 2]⟩ F_numden := good_tree okU4 (fun _ _ => X.G_below) 400 (by kernel_rfl) (by kernel_rfl : _ = some t_voussoirref03_Parts) fun ds rs h => by
 obtain ⟨n, a, b, rfl, ha, hb, rfl⟩ := R1.inv h
 have hq : Sq 9000 (qv n a b) := .qv (by decide) ha hb
 exact ⟨0, go_call F_rnorm rfl rfl (R1.eq ha hb) rfl (go_call F_above rfl rfl (Rc.can hq) rfl (go_call F_below rfl rfl (Rc.can hq) rfl (go_ret rfl)))⟩
def tbU5 : Tb := (27, F_numden) :: tbU4
theorem okU5 : TbOk Tryz.prog X.G tbU5 := .cons (by kernel_rfl) r_parts okU4
theorem r_radd : Sx.Good Tryz.prog X.G 49 ⟨[.agg 3, .agg 3], .v1 (.agg 3)⟩ F_radd := good_tree okU5 (fun _ _ => X.G_below) 400 (by kernel_rfl) (by kernel_rfl : _ = some t_voussoirref03_Add) fun ds rs h => by
 obtain ⟨n, a, b, m, c, d, rfl, ha, hb, hc, hd, rfl⟩ := R2.inv h
 have s1 : Sz 2000 (Z n a) := .of ha
 have s2 : Sz 2000 (dn b) := .dn hb (by decide)
 have s3 : Sz 2000 (Z m c) := .of hc
 have s4 : Sz 2000 (dn d) := .dn hd (by decide)
 refine ⟨0, go_call F_above rfl rfl (Rc.eq (by omega) (by omega)) rfl (go_call F_below rfl rfl (Rc.eq (by omega) (by omega)) rfl (go_call F_imul rfl rfl (I2.can (s1.le (by decide)) (s4.le (by decide))) rfl (go_call F_above rfl rfl (Rc.eq (by omega) (by omega)) rfl (go_call F_below rfl rfl (Rc.eq (by omega) (by omega)) rfl (go_call F_imul rfl rfl (I2.can (s3.le (by decide)) (s2.le (by decide))) rfl (go_call F_iadd rfl rfl (I2.can ((s1.mul s4).le (by decide)) ((s3.mul s2).le (by decide))) rfl (go_call F_below rfl rfl (Rc.eq (by omega) (by omega)) rfl (go_call F_below rfl rfl (Rc.eq (by omega) (by omega)) rfl (go_call F_imul rfl rfl (I2.can (s2.le (by decide)) (s4.le (by decide))) rfl (go_call F_make rfl rfl (I2.can (((s1.mul s4).add (s3.mul s2)).le (by decide)) ((s2.mul s4).le (by decide))) rfl (go_ret ?_)))))))))))⟩
 have h1 := dn_pos b
 have h2 := dn_pos d
 unfold qv
 rw [Rat.divInt_add_divInt _ _ (by omega) (by omega)]
 rfl
def tbU6 : Tb := (49, F_radd) :: tbU5
theorem okU6 : TbOk Tryz.prog X.G tbU6 := .cons (by kernel_rfl) r_radd okU5
theorem r_rneg : Sx.Good Tryz.prog X.G 53 ⟨[.agg 3], .v1 (.agg 3)⟩ F_rneg := good_tree okU6 (fun _ _ => X.G_below) 400 (by kernel_rfl) (by kernel_rfl : _ = some t_voussoirref03_Neg) fun ds rs h => by
 obtain ⟨n, a, b, rfl, ha, hb, rfl⟩ := R1.inv h
 have s1 : Sz 9000 (Z n a) := .of ha
 have s2 : Sz 9000 (dn b) := .dn hb (by decide)
 refine ⟨0, go_call F_above rfl rfl (Rc.eq (by omega) (by omega)) rfl (go_call F_ineg rfl rfl (I1.can (s1.le (by decide))) rfl (go_call F_below rfl rfl (Rc.eq (by omega) (by omega)) rfl (go_call F_make rfl rfl (I2.can s1.neg s2) rfl (go_ret ?_))))⟩
 unfold qv
 rw [Rat.neg_divInt]
 rfl
def tbU7 : Tb := (53, F_rneg) :: tbU6
theorem okU7 : TbOk Tryz.prog X.G tbU7 := .cons (by kernel_rfl) r_rneg okU6
theorem r_rsub : Sx.Good Tryz.prog X.G 50 ⟨[.agg 3, .agg 3], .v1 (.agg 3)⟩ F_rsub := good_tree okU7 (fun _ _ => X.G_below) 400 (by kernel_rfl) (by kernel_rfl : _ = some t_voussoirref03_Sub) fun ds rs h => by
 obtain ⟨n, a, b, m, c, d, rfl, ha, hb, hc, hd, rfl⟩ := R2.inv h
 have hq : Sq 2000 (qv m c d) := .qv (by decide) hc hd
 refine ⟨0, go_call F_rneg rfl rfl (R1.eq (by omega) (by omega)) rfl (go_call F_radd rfl rfl (R2.left ha hb hq.neg) rfl (go_ret ?_))⟩
 rw [Rat.sub_eq_add_neg]
 rfl
def tbU8 : Tb := (50, F_rsub) :: tbU7
theorem okU8 : TbOk Tryz.prog X.G tbU8 := .cons (by kernel_rfl) r_rsub okU7
theorem r_rmul : Sx.Good Tryz.prog X.G 51 ⟨[.agg 3, .agg 3], .v1 (.agg 3)⟩ F_rmul := good_tree okU8 (fun _ _ => X.G_below) 400 (by kernel_rfl) (by kernel_rfl : _ = some t_voussoirref03_Mul) fun ds rs h => by
 obtain ⟨n, a, b, m, c, d, rfl, ha, hb, hc, hd, rfl⟩ := R2.inv h
 have s1 : Sz 2000 (Z n a) := .of ha
 have s2 : Sz 2000 (dn b) := .dn hb (by decide)
 have s3 : Sz 2000 (Z m c) := .of hc
 have s4 : Sz 2000 (dn d) := .dn hd (by decide)
 refine ⟨0, go_call F_above rfl rfl (Rc.eq (by omega) (by omega)) rfl (go_call F_above rfl rfl (Rc.eq (by omega) (by omega)) rfl (go_call F_imul rfl rfl (I2.can (s1.le (by decide)) (s3.le (by decide))) rfl (go_call F_below rfl rfl (Rc.eq (by omega) (by omega)) rfl (go_call F_below rfl rfl (Rc.eq (by omega) (by omega)) rfl (go_call F_imul rfl rfl (I2.can (s2.le (by decide)) (s4.le (by decide))) rfl (go_call F_make rfl rfl (I2.can ((s1.mul s3).le (by decide)) ((s2.mul s4).le (by decide))) rfl (go_ret ?_)))))))⟩
 unfold qv
 rw [Rat.divInt_mul_divInt]
 rfl
def tbU9 : Tb := (51, F_rmul) :: tbU8
theorem okU9 : TbOk Tryz.prog X.G tbU9 := .cons (by kernel_rfl) r_rmul okU8
theorem r_rdiv : Sx.Good Tryz.prog X.G 48 ⟨[.agg 3, .agg 3], .tup [.agg 3, .one]⟩ F_rdiv := good_tree okU9 (fun _ _ => X.G_below) 400 (by kernel_rfl) (by kernel_rfl : _ = some t_voussoirref03_Div) fun ds rs h => by
 obtain ⟨n, a, b, m, c, d, rfl, ha, hb, hc, hd, rfl⟩ := R2.inv h
 have s1 : Sz 2000 (Z n a) := .of ha
 have s2 : Sz 2000 (dn b) := .dn hb (by decide)
 have s3 : Sz 2000 (Z m c) := .of hc
 have s4 : Sz 2000 (dn d) := .dn hd (by decide)
 refine ⟨0, go_call F_above rfl rfl (Rc.eq (by omega) (by omega)) rfl (go_call F_below rfl rfl (Rc.eq (by omega) (by omega)) rfl (go_call F_imul rfl rfl (I2.can (s1.le (by decide)) (s4.le (by decide))) rfl (go_call F_below rfl rfl (Rc.eq (by omega) (by omega)) rfl (go_call F_above rfl rfl (Rc.eq (by omega) (by omega)) rfl (go_call F_imul rfl rfl (I2.can (s2.le (by decide)) (s3.le (by decide))) rfl (go_call F_make rfl rfl (I2.can ((s1.mul s4).le (by decide)) ((s2.mul s3).le (by decide))) rfl (go_ret ?_)))))))⟩
 have e : decide (dn b * Z m c = 0) = decide (qv m c d = 0) := by
  have := dn_pos b
  rw [Bool.eq_iff_iff, decide_eq_true_iff, decide_eq_true_iff, qv_zero, Int.mul_eq_zero]
  omega
 unfold qv at *
 rw [divInt_div, ← e]
 rfl
def tbU10 : Tb := (48, F_rdiv) :: tbU9
theorem okU10 : TbOk Tryz.prog X.G tbU10 := .cons (by kernel_rfl) r_rdiv okU9
theorem r_rsign : Sx.Good Tryz.prog X.G 32 ⟨[.agg 3], .v1 .one⟩ F_rsign := good_tree okU10 (fun _ _ => X.G_below) 400 (by kernel_rfl) (by kernel_rfl : _ = some t_voussoirref03_Sign) fun ds rs h => by
 obtain ⟨n, a, b, rfl, ha, hb, rfl⟩ := R1.inv h
 have s1 : Sz 9000 (Z n a) := .of ha
 have s2 : Sz 9000 (dn b) := .dn hb (by decide)
 refine ⟨0, go_call F_above rfl rfl (Rc.eq (by omega) (by omega)) rfl (go_call F_isign rfl rfl (I1.can (s1.le (by decide))) rfl (go_ret ?_))⟩
 unfold qv
 rw [sgn_num (dn_pos b)]
 rfl
def tbU11 : Tb := (32, F_rsign) :: tbU10
theorem okU11 : TbOk Tryz.prog X.G tbU11 := .cons (by kernel_rfl) r_rsign okU10
theorem r_rcmp : Sx.Good Tryz.prog X.G 54 ⟨[.agg 3, .agg 3], .v1 .one⟩ F_rcmp := good_tree okU11 (fun _ _ => X.G_below) 400 (by kernel_rfl) (by kernel_rfl : _ = some t_voussoirref03_Cmp) fun ds rs h => by
 obtain ⟨n, a, b, m, c, d, rfl, ha, hb, hc, hd, rfl⟩ := R2.inv h
 have h1 : Sq 2000 (qv n a b) := .qv (by decide) ha hb
 have h2 : Sq 2000 (qv m c d) := .qv (by decide) hc hd
 have h3 := h1.add h2.neg
 rw [← Rat.sub_eq_add_neg] at h3
 exact ⟨0, go_call F_rsub rfl rfl (R2.eq ha hb hc hd) rfl (go_call F_rsign rfl rfl (R1.can (h3.le (by decide))) rfl (go_ret rfl))⟩
def tbU12 : Tb := (54, F_rcmp) :: tbU11
theorem okU12 : TbOk Tryz.prog X.G tbU12 := .cons (by kernel_rfl) r_rcmp okU11
theorem r_floor : Sx.Good Tryz.prog X.G 42 ⟨[.agg 3], .v1 (.agg 2)⟩ F_floor := good_tree okU12 (fun _ _ => X.G_below) 400 (by kernel_rfl) (by kernel_rfl : _ = some t_voussoirref03_Floor) fun ds rs h => by
 obtain ⟨n, a, b, rfl, ha, hb, rfl⟩ := R1.inv h
 have hq : Sq 9000 (qv n a b) := .qv (by decide) ha hb
 refine ⟨0, go_call F_numden rfl rfl (R1.eq ha hb) rfl ?_⟩
 generalize qv n a b = x at *
 have e : F_idiv (enc x.num ++ enc x.den) = some (enc (x.num / x.den) ++ enc (x.num % x.den) ++ [b_ true]) := by
  rw [F_idiv, I2.can hq.1 hq.2]
  unfold gdiv idivR
  rw [if_neg (den_ne x)]
  rfl
 refine go_call F_idiv rfl rfl e rfl (go_ret ?_)
 rw [Rat.floor_def]
 rfl
def tbU13 : Tb := (42, F_floor) :: tbU12
theorem okU13 : TbOk Tryz.prog X.G tbU13 := .cons (by kernel_rfl) r_floor okU12
end Go.Proofs.YtliabkapejhohaaGreatDoor.Sp
