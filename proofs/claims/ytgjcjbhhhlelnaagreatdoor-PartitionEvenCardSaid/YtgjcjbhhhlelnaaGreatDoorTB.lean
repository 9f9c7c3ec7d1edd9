/-
  What the functions come to, with the slots gone; printed by wip/abs/T6.lean.txt.
-/
import Derived.Test.YtgjcjbhhhlelnaaGreatDoorTA
namespace Go.Proofs.YtgjcjbhhhlelnaaGreatDoor
open Go Go.Proofs.YtgjcjbhhhlelnaaGreatDoor.Abs
set_option maxRecDepth 100000
set_option maxHeartbeats 0
set_option linter.all false
def d_law34_PartitionEven_j1 (G : Nat → Option (List AV)) (K : FuncId → List AV → List AObj → KR) (L : Nat) (hp0 : List AObj)   (hp : List AObj) (ef : Eff) : KR :=
  opt3 (K F_law34_awake [] hp) fun v42 h43 f44 =>
  some (finK false hp0 v42 h43 (afterK hp0.length ef f44))
theorem d_law34_PartitionEven_j1_eq (G : Nat → Option (List AV)) (K : FuncId → List AV → List AObj → KR) (L : Nat) (hp0 : List AObj)   : codeK G 115 hp0.length K p_law34_PartitionEven L c_law34_PartitionEven_j1 (retK p_law34_PartitionEven a_law34_PartitionEven hp0) (retK p_law34_PartitionEven a_law34_PartitionEven hp0) [] = fun e hp ef => d_law34_PartitionEven_j1 G K L hp0   hp ef := by
  kernel_rfl
def d_law34_PartitionEven_l0 (G : Nat → Option (List AV)) (K : FuncId → List AV → List AObj → KR) (L : Nat) (hp0 : List AObj) (k0 : List AObj → Eff → KR) : Nat → AV → AV → AV → AV → AV → List AObj → Eff → KR
  | 0, _, _, _, _, _, _, _ => none
  | m + 1, x0, x1, x5, x9, x10, hp, ef =>
    optK (binVal .leq .prim x10 x0) fun v45 =>
    ifK v45
    (optK (binVal .lss .prim x10 x0) fun v46 =>
    grpK v46 true
    (optK (iaVal (.slice 1) x5 x10) fun v47 =>
    optK (ldcVal hp v47) fun v48 =>
    optK (binVal .sub .prim x10 (.int .i64 1)) fun v49 =>
    optK (iaVal (.slice 1) x5 v49) fun v50 =>
    optK (ldcVal hp v50) fun v51 =>
    optK (binVal .eql .prim v48 v51) fun v52 =>
    some (v52, hp, ef))
    (some (.bool false)) hp ef fun v53 h54 f55 =>
    ifK (AV.ro v53)
    (optK (binVal .add .prim x9 (.int .i64 1)) fun v56 =>
    optK (binVal .add .prim x10 (.int .i64 1)) fun v57 =>
    d_law34_PartitionEven_l0 G K L hp0 k0 m x0 x1 x5 v56 v57 h54 f55)
    (optK (binVal .lss .prim x10 x0) fun v58 =>
    grpK v58 true
    (optK (iaVal (.slice 1) x5 x10) fun v59 =>
    optK (ldcVal h54 v59) fun v60 =>
    optK (binVal .sub .prim x10 (.int .i64 1)) fun v61 =>
    optK (iaVal (.slice 1) x5 v61) fun v62 =>
    optK (ldcVal h54 v62) fun v63 =>
    optK (binVal .add .prim v63 (.int .i64 1)) fun v64 =>
    optK (binVal .neq .prim v60 v64) fun v65 =>
    some (v65, h54, f55))
    (some (.bool false)) h54 f55 fun v66 h67 f68 =>
    grpK (AV.ro v66) false
    (optK (binVal .quo .prim x0 x1) fun v69 =>
    optK (binVal .neq .prim x9 v69) fun v70 =>
    grpK v70 true
    (optK (binVal .add .prim x0 x1) fun v71 =>
    optK (binVal .sub .prim v71 (.int .i64 1)) fun v72 =>
    optK (binVal .quo .prim v72 x1) fun v73 =>
    optK (binVal .neq .prim x9 v73) fun v74 =>
    some (v74, h67, f68))
    (some (.bool false)) h67 f68 fun v75 h76 f77 =>
    some ((AV.ro v75), h76, f77))
    (some (.bool true)) h67 f68 fun v78 h79 f80 =>
    ifK (AV.ro v78)
    (some (finK false hp0 (.bool false) h79 f80))
    (optK (binVal .add .prim x10 (.int .i64 1)) fun v81 =>
    d_law34_PartitionEven_l0 G K L hp0 k0 m x0 x1 x5 (.int .i64 1) v81 h79 f80)))
    (k0  hp ef)
theorem d_law34_PartitionEven_l0_lp (G : Nat → Option (List AV)) (K : FuncId → List AV → List AObj → KR) (L : Nat) (hp0 : List AObj) (k0 : List AObj → Eff → KR)  : ∀ m, loopK (fun n' => codeK G 115 hp0.length K p_law34_PartitionEven L c_law34_PartitionEven_l0b n' (retK p_law34_PartitionEven a_law34_PartitionEven hp0) [(0, (fun e hp ef => k0  hp ef))]) m = fun e hp ef => d_law34_PartitionEven_l0 G K L hp0 k0 m (e 0).rd (e 1).rd (e 5).rd (e 9).rd (e 10).rd hp ef := by
  intro m
  induction m with
  | zero => rfl
  | succ m ih =>
    show codeK G 115 hp0.length K p_law34_PartitionEven L c_law34_PartitionEven_l0b (loopK _ m) (retK p_law34_PartitionEven a_law34_PartitionEven hp0) [(0, (fun e hp ef => k0  hp ef))] = _
    rw [ih]
    kernel_rfl
theorem d_law34_PartitionEven_l0_eq (G : Nat → Option (List AV)) (K : FuncId → List AV → List AObj → KR) (L : Nat) (hp0 : List AObj) (k0 : List AObj → Eff → KR)  (zn : Cont) : codeK G 115 hp0.length K p_law34_PartitionEven L c_law34_PartitionEven_l0 zn (retK p_law34_PartitionEven a_law34_PartitionEven hp0) [(0, (fun e hp ef => k0  hp ef))] = fun e hp ef => d_law34_PartitionEven_l0 G K L hp0 k0 L (e 0).rd (e 1).rd (e 5).rd (e 9).rd (e 10).rd hp ef := d_law34_PartitionEven_l0_lp G K L hp0 k0  L
def d_law34_PartitionEven (G : Nat → Option (List AV)) (K : FuncId → List AV → List AObj → KR) (L : Nat) (x0 x1 : AV) (hp0 : List AObj) : KR :=
  opt3 (K F_partition_Even [(AV.ro x0), (AV.ro x1)] hp0) fun v0 h1 f2 =>
  optK (extractV (AV.ro v0) 0) fun v3 =>
  optK (extractV (AV.ro v0) 1) fun v4 =>
  opt3 (K F_r34_Even [(AV.ro x0), (AV.ro x1)] h1) fun v5 h6 f7 =>
  optK (extractV (AV.ro v5) 0) fun v8 =>
  optK (extractV (AV.ro v5) 1) fun v9 =>
  optK (binVal .neq .prim v4 v9) fun v10 =>
  grpK v10 false
  (opt3 (K F_r34_SameInts [v3, v8] h6) fun v11 h12 f13 =>
  optK (unVal .not (AV.ro v11)) fun v14 =>
  some (v14, h12, (afterK hp0.length (afterK hp0.length (afterK hp0.length none f2) f7) f13)))
  (some (.bool true)) h6 (afterK hp0.length (afterK hp0.length none f2) f7) fun v15 h16 f17 =>
  ifK (AV.ro v15)
  (some (finK false hp0 (.bool false) h16 f17))
  (optK (binVal .neq .prim v4 (.int .i64 0)) fun v18 =>
  ifK v18
  (opt3 (K F_law34_awake [] h16) fun v19 h20 f21 =>
  some (finK false hp0 v19 h20 (afterK hp0.length f17 f21)))
  (optK (lenVal h16 .slice v3) fun v22 =>
  optK (binVal .neq .prim v22 (AV.ro x0)) fun v23 =>
  grpK v23 false
  (optK (binVal .lss .prim (AV.ro x0) (.int .i64 1)) fun v24 =>
  some (v24, h16, f17))
  (some (.bool true)) h16 f17 fun v25 h26 f27 =>
  grpK (AV.ro v25) false
  (optK (iaVal (.slice 1) v3 (.int .i64 0)) fun v28 =>
  optK (ldcVal h26 v28) fun v29 =>
  optK (binVal .neq .prim v29 (.int .i64 0)) fun v30 =>
  some (v30, h26, f27))
  (some (.bool true)) h26 f27 fun v31 h32 f33 =>
  grpK (AV.ro v31) false
  (optK (binVal .sub .prim (AV.ro x0) (.int .i64 1)) fun v34 =>
  optK (iaVal (.slice 1) v3 v34) fun v35 =>
  optK (ldcVal h32 v35) fun v36 =>
  optK (binVal .sub .prim (AV.ro x1) (.int .i64 1)) fun v37 =>
  optK (binVal .neq .prim v36 v37) fun v38 =>
  some (v38, h32, f33))
  (some (.bool true)) h32 f33 fun v39 h40 f41 =>
  ifK (AV.ro v39)
  (some (finK false hp0 (.bool false) h40 f41))
  (d_law34_PartitionEven_l0 G K L hp0 (d_law34_PartitionEven_j1 G K L hp0 ) L (AV.ro x0) (AV.ro x1) v3 (.int .i64 1) (.int .i64 1) h40 f41)))
theorem d_law34_PartitionEven_eq (G : Nat → Option (List AV)) (K : FuncId → List AV → List AObj → KR) (L : Nat) (x0 x1 : AV) (hp0 : List AObj) : fnK G K p_law34_PartitionEven L a_law34_PartitionEven [x0, x1] hp0 = d_law34_PartitionEven G K L x0 x1 hp0 := by
  show codeK G 115 hp0.length K p_law34_PartitionEven L c_law34_PartitionEven (retK p_law34_PartitionEven a_law34_PartitionEven hp0) (retK p_law34_PartitionEven a_law34_PartitionEven hp0) [] (argE [x0, x1]) hp0 none = _
  simp only [c_law34_PartitionEven, codeK_seq, codeK_block, codeK_scope, codeK_cond]
  rw [d_law34_PartitionEven_j1_eq G K L hp0  , d_law34_PartitionEven_l0_eq G K L hp0 (d_law34_PartitionEven_j1 G K L hp0 )  _]
  kernel_rfl
theorem law34_PartitionEven_run {C : Cfg} (h : C.T F_law34_PartitionEven = some a_law34_PartitionEven) {n : Nat} {x0 x1 : AV} {hp : List AObj} {r : AV × List AObj × Eff} (hr : d_law34_PartitionEven C.G (evalCall C n) C.L x0 x1 hp = some r) : evalCall C (n + 1) F_law34_PartitionEven [x0, x1] hp = some r := fnK_ok h (Nat.le_of_ble_eq_true rfl) ((d_law34_PartitionEven_eq ..).trans hr)
def d_partition_Even_j1 (G : Nat → Option (List AV)) (K : FuncId → List AV → List AObj → KR) (L : Nat) (hp0 : List AObj)  (y6 : AV) (hp : List AObj) (ef : Eff) : KR :=
  some (finK false hp0 (.tup [(AV.nm y6), (AV.nm (.int .i64 0))]) hp ef)
theorem d_partition_Even_j1_eq (G : Nat → Option (List AV)) (K : FuncId → List AV → List AObj → KR) (L : Nat) (hp0 : List AObj)   : codeK G 40 hp0.length K p_partition_Even L c_partition_Even_j1 (retK p_partition_Even a_partition_Even hp0) (retK p_partition_Even a_partition_Even hp0) [] = fun e hp ef => d_partition_Even_j1 G K L hp0  (e 6).val hp ef := by
  kernel_rfl
def d_partition_Even_l0 (G : Nat → Option (List AV)) (K : FuncId → List AV → List AObj → KR) (L : Nat) (hp0 : List AObj) (k0 : AV → List AObj → Eff → KR) : Nat → AV → AV → AV → AV → AV → AV → List AObj → Eff → KR
  | 0, _, _, _, _, _, _, _, _ => none
  | m + 1, x0, x1, x6, y6, x26, x27, hp, ef =>
    optK (binVal .lss .prim x27 x26) fun v16 =>
    ifK v16
    (optK (binVal .mul .prim x27 x1) fun v17 =>
    optK (binVal .quo .prim v17 x0) fun v18 =>
    optK (iaVal (.slice 1) x6 x27) fun v19 =>
    opt2 (sttV hp0.length v19 v18 hp ef) fun h20 f21 =>
    optK (binVal .add .prim x27 (.int .i64 1)) fun v22 =>
    d_partition_Even_l0 G K L hp0 k0 m x0 x1 x6 y6 x26 v22 h20 f21)
    (k0 y6 hp ef)
theorem d_partition_Even_l0_lp (G : Nat → Option (List AV)) (K : FuncId → List AV → List AObj → KR) (L : Nat) (hp0 : List AObj) (k0 : AV → List AObj → Eff → KR)  : ∀ m, loopK (fun n' => codeK G 40 hp0.length K p_partition_Even L c_partition_Even_l0b n' (retK p_partition_Even a_partition_Even hp0) [(0, (fun e hp ef => k0 (e 6).val hp ef))]) m = fun e hp ef => d_partition_Even_l0 G K L hp0 k0 m (e 0).rd (e 1).rd (e 6).rd (e 6).val (e 26).rd (e 27).rd hp ef := by
  intro m
  induction m with
  | zero => rfl
  | succ m ih =>
    show codeK G 40 hp0.length K p_partition_Even L c_partition_Even_l0b (loopK _ m) (retK p_partition_Even a_partition_Even hp0) [(0, (fun e hp ef => k0 (e 6).val hp ef))] = _
    rw [ih]
    kernel_rfl
theorem d_partition_Even_l0_eq (G : Nat → Option (List AV)) (K : FuncId → List AV → List AObj → KR) (L : Nat) (hp0 : List AObj) (k0 : AV → List AObj → Eff → KR)  (zn : Cont) : codeK G 40 hp0.length K p_partition_Even L c_partition_Even_l0 zn (retK p_partition_Even a_partition_Even hp0) [(0, (fun e hp ef => k0 (e 6).val hp ef))] = fun e hp ef => d_partition_Even_l0 G K L hp0 k0 L (e 0).rd (e 1).rd (e 6).rd (e 6).val (e 26).rd (e 27).rd hp ef := d_partition_Even_l0_lp G K L hp0 k0  L
def d_partition_Even (G : Nat → Option (List AV)) (K : FuncId → List AV → List AObj → KR) (L : Nat) (x0 x1 : AV) (hp0 : List AObj) : KR :=
  optK (binVal .lss .prim (AV.ro x0) (.int .i64 1)) fun v0 =>
  grpK v0 false
  (optK (binVal .gtr .prim (AV.ro x0) (.int .i64 16)) fun v1 =>
  some (v1, hp0, none))
  (some (.bool true)) hp0 none fun v2 h3 f4 =>
  grpK (AV.ro v2) false
  (optK (binVal .lss .prim (AV.ro x1) (.int .i64 1)) fun v5 =>
  some (v5, h3, f4))
  (some (.bool true)) h3 f4 fun v6 h7 f8 =>
  grpK (AV.ro v6) false
  (optK (binVal .gtr .prim (AV.ro x1) (AV.ro x0)) fun v9 =>
  some (v9, h7, f8))
  (some (.bool true)) h7 f8 fun v10 h11 f12 =>
  ifK (AV.ro v10)
  (some (finK false hp0 (.tup [(AV.nm (.own 1 [])), (AV.nm (.int .i64 2))]) h11 f12))
  (opt2 (mkslV ty_int [(.int .i64 0)] (AV.ro x0) h11) fun v13 h14 =>
  optK (lenVal h14 .slice v13) fun v15 =>
  d_partition_Even_l0 G K L hp0 (d_partition_Even_j1 G K L hp0 ) L (AV.ro x0) (AV.ro x1) v13 v13 v15 (.int .i64 0) h14 f12)
theorem d_partition_Even_eq (G : Nat → Option (List AV)) (K : FuncId → List AV → List AObj → KR) (L : Nat) (x0 x1 : AV) (hp0 : List AObj) : fnK G K p_partition_Even L a_partition_Even [x0, x1] hp0 = d_partition_Even G K L x0 x1 hp0 := by
  show codeK G 40 hp0.length K p_partition_Even L c_partition_Even (retK p_partition_Even a_partition_Even hp0) (retK p_partition_Even a_partition_Even hp0) [] (argE [x0, x1]) hp0 none = _
  simp only [c_partition_Even, codeK_seq, codeK_block, codeK_scope, codeK_cond]
  rw [d_partition_Even_j1_eq G K L hp0  , d_partition_Even_l0_eq G K L hp0 (d_partition_Even_j1 G K L hp0 )  _]
  kernel_rfl
theorem partition_Even_run {C : Cfg} (h : C.T F_partition_Even = some a_partition_Even) {n : Nat} {x0 x1 : AV} {hp : List AObj} {r : AV × List AObj × Eff} (hr : d_partition_Even C.G (evalCall C n) C.L x0 x1 hp = some r) : evalCall C (n + 1) F_partition_Even [x0, x1] hp = some r := fnK_ok h (Nat.le_of_ble_eq_true rfl) ((d_partition_Even_eq ..).trans hr)
def d_r34_Even_j1 (G : Nat → Option (List AV)) (K : FuncId → List AV → List AObj → KR) (L : Nat) (hp0 : List AObj)  (y6 : AV) (hp : List AObj) (ef : Eff) : KR :=
  some (finK false hp0 (.tup [(AV.nm y6), (AV.nm (.int .i64 0))]) hp ef)
theorem d_r34_Even_j1_eq (G : Nat → Option (List AV)) (K : FuncId → List AV → List AObj → KR) (L : Nat) (hp0 : List AObj)   : codeK G 37 hp0.length K p_r34_Even L c_r34_Even_j1 (retK p_r34_Even a_r34_Even hp0) (retK p_r34_Even a_r34_Even hp0) [] = fun e hp ef => d_r34_Even_j1 G K L hp0  (e 6).val hp ef := by
  kernel_rfl
def d_r34_Even_l0 (G : Nat → Option (List AV)) (K : FuncId → List AV → List AObj → KR) (L : Nat) (hp0 : List AObj) (k0 : AV → List AObj → Eff → KR) : Nat → AV → AV → AV → AV → List AObj → Eff → KR
  | 0, _, _, _, _, _, _ => none
  | m + 1, x0, x1, y6, x7, hp, ef =>
    optK (binVal .lss .prim x7 x0) fun v13 =>
    ifK v13
    (optK (binVal .mul .prim x7 x1) fun v14 =>
    optK (binVal .quo .prim v14 x0) fun v15 =>
    opt2 (litV ty_int 1 [v15] hp) fun v16 h17 =>
    optK (appV 1 8 y6 (AV.ro v16) h17) fun v18 =>
    optK (binVal .add .prim x7 (.int .i64 1)) fun v19 =>
    d_r34_Even_l0 G K L hp0 k0 m x0 x1 v18 v19 h17 ef)
    (k0 y6 hp ef)
theorem d_r34_Even_l0_lp (G : Nat → Option (List AV)) (K : FuncId → List AV → List AObj → KR) (L : Nat) (hp0 : List AObj) (k0 : AV → List AObj → Eff → KR)  : ∀ m, loopK (fun n' => codeK G 37 hp0.length K p_r34_Even L c_r34_Even_l0b n' (retK p_r34_Even a_r34_Even hp0) [(0, (fun e hp ef => k0 (e 6).val hp ef))]) m = fun e hp ef => d_r34_Even_l0 G K L hp0 k0 m (e 0).rd (e 1).rd (e 6).val (e 7).rd hp ef := by
  intro m
  induction m with
  | zero => rfl
  | succ m ih =>
    show codeK G 37 hp0.length K p_r34_Even L c_r34_Even_l0b (loopK _ m) (retK p_r34_Even a_r34_Even hp0) [(0, (fun e hp ef => k0 (e 6).val hp ef))] = _
    rw [ih]
    kernel_rfl
theorem d_r34_Even_l0_eq (G : Nat → Option (List AV)) (K : FuncId → List AV → List AObj → KR) (L : Nat) (hp0 : List AObj) (k0 : AV → List AObj → Eff → KR)  (zn : Cont) : codeK G 37 hp0.length K p_r34_Even L c_r34_Even_l0 zn (retK p_r34_Even a_r34_Even hp0) [(0, (fun e hp ef => k0 (e 6).val hp ef))] = fun e hp ef => d_r34_Even_l0 G K L hp0 k0 L (e 0).rd (e 1).rd (e 6).val (e 7).rd hp ef := d_r34_Even_l0_lp G K L hp0 k0  L
def d_r34_Even (G : Nat → Option (List AV)) (K : FuncId → List AV → List AObj → KR) (L : Nat) (x0 x1 : AV) (hp0 : List AObj) : KR :=
  optK (binVal .lss .prim (AV.ro x0) (.int .i64 1)) fun v0 =>
  grpK v0 false
  (optK (binVal .gtr .prim (AV.ro x0) (.int .i64 16)) fun v1 =>
  some (v1, hp0, none))
  (some (.bool true)) hp0 none fun v2 h3 f4 =>
  grpK (AV.ro v2) false
  (optK (binVal .lss .prim (AV.ro x1) (.int .i64 1)) fun v5 =>
  some (v5, h3, f4))
  (some (.bool true)) h3 f4 fun v6 h7 f8 =>
  grpK (AV.ro v6) false
  (optK (binVal .gtr .prim (AV.ro x1) (AV.ro x0)) fun v9 =>
  some (v9, h7, f8))
  (some (.bool true)) h7 f8 fun v10 h11 f12 =>
  ifK (AV.ro v10)
  (some (finK false hp0 (.tup [(AV.nm (.own 1 [])), (AV.nm (.int .i64 2))]) h11 f12))
  (d_r34_Even_l0 G K L hp0 (d_r34_Even_j1 G K L hp0 ) L (AV.ro x0) (AV.ro x1) (.own 1 []) (.int .i64 0) h11 f12)
theorem d_r34_Even_eq (G : Nat → Option (List AV)) (K : FuncId → List AV → List AObj → KR) (L : Nat) (x0 x1 : AV) (hp0 : List AObj) : fnK G K p_r34_Even L a_r34_Even [x0, x1] hp0 = d_r34_Even G K L x0 x1 hp0 := by
  show codeK G 37 hp0.length K p_r34_Even L c_r34_Even (retK p_r34_Even a_r34_Even hp0) (retK p_r34_Even a_r34_Even hp0) [] (argE [x0, x1]) hp0 none = _
  simp only [c_r34_Even, codeK_seq, codeK_block, codeK_scope, codeK_cond]
  rw [d_r34_Even_j1_eq G K L hp0  , d_r34_Even_l0_eq G K L hp0 (d_r34_Even_j1 G K L hp0 )  _]
  kernel_rfl
theorem r34_Even_run {C : Cfg} (h : C.T F_r34_Even = some a_r34_Even) {n : Nat} {x0 x1 : AV} {hp : List AObj} {r : AV × List AObj × Eff} (hr : d_r34_Even C.G (evalCall C n) C.L x0 x1 hp = some r) : evalCall C (n + 1) F_r34_Even [x0, x1] hp = some r := fnK_ok h (Nat.le_of_ble_eq_true rfl) ((d_r34_Even_eq ..).trans hr)
def d_r34_SameInts_j1 (G : Nat → Option (List AV)) (K : FuncId → List AV → List AObj → KR) (L : Nat) (hp0 : List AObj)   (hp : List AObj) (ef : Eff) : KR :=
  some (finK false hp0 (.bool true) hp ef)
theorem d_r34_SameInts_j1_eq (G : Nat → Option (List AV)) (K : FuncId → List AV → List AObj → KR) (L : Nat) (hp0 : List AObj)   : codeK G 26 hp0.length K p_r34_SameInts L c_r34_SameInts_j1 (retK p_r34_SameInts a_r34_SameInts hp0) (retK p_r34_SameInts a_r34_SameInts hp0) [] = fun e hp ef => d_r34_SameInts_j1 G K L hp0   hp ef := by
  kernel_rfl
def d_r34_SameInts_l0 (G : Nat → Option (List AV)) (K : FuncId → List AV → List AObj → KR) (L : Nat) (hp0 : List AObj) (k0 : List AObj → Eff → KR) : Nat → AV → AV → AV → List AObj → Eff → KR
  | 0, _, _, _, _, _ => none
  | m + 1, x0, x1, x5, hp, ef =>
    optK (lenVal hp .slice x0) fun v3 =>
    optK (binVal .lss .prim x5 v3) fun v4 =>
    ifK v4
    (optK (iaVal (.slice 1) x0 x5) fun v5 =>
    optK (ldcVal hp v5) fun v6 =>
    optK (iaVal (.slice 1) x1 x5) fun v7 =>
    optK (ldcVal hp v7) fun v8 =>
    optK (binVal .neq .prim v6 v8) fun v9 =>
    ifK v9
    (some (finK false hp0 (.bool false) hp ef))
    (optK (binVal .add .prim x5 (.int .i64 1)) fun v10 =>
    d_r34_SameInts_l0 G K L hp0 k0 m x0 x1 v10 hp ef))
    (k0  hp ef)
theorem d_r34_SameInts_l0_lp (G : Nat → Option (List AV)) (K : FuncId → List AV → List AObj → KR) (L : Nat) (hp0 : List AObj) (k0 : List AObj → Eff → KR)  : ∀ m, loopK (fun n' => codeK G 26 hp0.length K p_r34_SameInts L c_r34_SameInts_l0b n' (retK p_r34_SameInts a_r34_SameInts hp0) [(0, (fun e hp ef => k0  hp ef))]) m = fun e hp ef => d_r34_SameInts_l0 G K L hp0 k0 m (e 0).rd (e 1).rd (e 5).rd hp ef := by
  intro m
  induction m with
  | zero => rfl
  | succ m ih =>
    show codeK G 26 hp0.length K p_r34_SameInts L c_r34_SameInts_l0b (loopK _ m) (retK p_r34_SameInts a_r34_SameInts hp0) [(0, (fun e hp ef => k0  hp ef))] = _
    rw [ih]
    kernel_rfl
theorem d_r34_SameInts_l0_eq (G : Nat → Option (List AV)) (K : FuncId → List AV → List AObj → KR) (L : Nat) (hp0 : List AObj) (k0 : List AObj → Eff → KR)  (zn : Cont) : codeK G 26 hp0.length K p_r34_SameInts L c_r34_SameInts_l0 zn (retK p_r34_SameInts a_r34_SameInts hp0) [(0, (fun e hp ef => k0  hp ef))] = fun e hp ef => d_r34_SameInts_l0 G K L hp0 k0 L (e 0).rd (e 1).rd (e 5).rd hp ef := d_r34_SameInts_l0_lp G K L hp0 k0  L
def d_r34_SameInts (G : Nat → Option (List AV)) (K : FuncId → List AV → List AObj → KR) (L : Nat) (x0 x1 : AV) (hp0 : List AObj) : KR :=
  optK (lenVal hp0 .slice (AV.ro x0)) fun v0 =>
  optK (lenVal hp0 .slice (AV.ro x1)) fun v1 =>
  optK (binVal .neq .prim v0 v1) fun v2 =>
  ifK v2
  (some (finK false hp0 (.bool false) hp0 none))
  (d_r34_SameInts_l0 G K L hp0 (d_r34_SameInts_j1 G K L hp0 ) L (AV.ro x0) (AV.ro x1) (.int .i64 0) hp0 none)
theorem d_r34_SameInts_eq (G : Nat → Option (List AV)) (K : FuncId → List AV → List AObj → KR) (L : Nat) (x0 x1 : AV) (hp0 : List AObj) : fnK G K p_r34_SameInts L a_r34_SameInts [x0, x1] hp0 = d_r34_SameInts G K L x0 x1 hp0 := by
  show codeK G 26 hp0.length K p_r34_SameInts L c_r34_SameInts (retK p_r34_SameInts a_r34_SameInts hp0) (retK p_r34_SameInts a_r34_SameInts hp0) [] (argE [x0, x1]) hp0 none = _
  simp only [c_r34_SameInts, codeK_seq, codeK_block, codeK_scope, codeK_cond]
  rw [d_r34_SameInts_j1_eq G K L hp0  , d_r34_SameInts_l0_eq G K L hp0 (d_r34_SameInts_j1 G K L hp0 )  _]
  kernel_rfl
theorem r34_SameInts_run {C : Cfg} (h : C.T F_r34_SameInts = some a_r34_SameInts) {n : Nat} {x0 x1 : AV} {hp : List AObj} {r : AV × List AObj × Eff} (hr : d_r34_SameInts C.G (evalCall C n) C.L x0 x1 hp = some r) : evalCall C (n + 1) F_r34_SameInts [x0, x1] hp = some r := fnK_ok h (Nat.le_of_ble_eq_true rfl) ((d_r34_SameInts_eq ..).trans hr)
end Go.Proofs.YtgjcjbhhhlelnaaGreatDoor
