/-
  What the functions come to, with the slots gone; printed by wip/abs/T6.lean.txt.
-/
import Derived.Test.YtlmfmmclnboglaaGreatTA
namespace Go.Proofs.YtlmfmmclnboglaaGreat
open Go Go.Proofs.YtlmfmmclnboglaaGreat.Abs
set_option maxRecDepth 100000
set_option maxHeartbeats 0
set_option linter.all false
def d_law11_ModelFinds_j1 (G : GT) (K : KT) (L : Nat) (hp0 : HP)   (hp : HP) (ef : Eff) : KR :=
  opt3 (K F_law11_awake [] hp) fun v39 h40 f41 =>
  some (finK false hp0 v39 h40 (afterK hp0.length ef f41))
theorem d_law11_ModelFinds_j1_eq (G : GT) (K : KT) (L : Nat) (hp0 : HP)   : codeK G 86 hp0.length K p_law11_ModelFinds L c_law11_ModelFinds_j1 (retK p_law11_ModelFinds a_law11_ModelFinds hp0) (retK p_law11_ModelFinds a_law11_ModelFinds hp0) [] = fun e hp ef => d_law11_ModelFinds_j1 G K L hp0   hp ef := by
  kernel_rfl
def d_law11_ModelFinds_l0 (G : GT) (K : KT) (L : Nat) (hp0 : HP) (k0 : HP → Eff → KR) : Nat → AV → AV → AV → HP → Eff → KR
  | 0, _, _, _, _, _ => none
  | m + 1, x1, x3, x11, hp, ef =>
    optK (faVal 2 x3) fun v42 =>
    optK (ldcVal hp v42) fun v43 =>
    optK (lenVal hp .slice v43) fun v44 =>
    optK (binVal .lss .prim x11 v44) fun v45 =>
    ifK v45
    (optK (faVal 2 x3) fun v46 =>
    optK (ldcVal hp v46) fun v47 =>
    optK (iaVal (.slice 13) v47 x11) fun v48 =>
    optK (ldaVal hp 13 v48) fun v49 =>
    letK (hp ++ [.cells [(.str []), (.own 3 []), (.own 17 []), (.own 3 []), (.own 3 []), (.own 1 []), (.own 1 []), (.own 1 []), (.own 1 []), (.own 1 []), (.own 4 []), (.own 5 []), (.own 3 [])] ty_api_SiteDecl]) fun h50 =>
    opt2 (stV hp0.length 13 (.ptr (hp).length 0) v49 h50 ef) fun h51 f52 =>
    optK (ldaVal h51 13 (.ptr (hp).length 0)) fun v53 =>
    opt3 (quietCall K F_model_Routine [v53, x1] h51) fun v54 h55 f56 =>
    optK (ldaVal h55 13 (.ptr (hp).length 0)) fun v57 =>
    opt3 (quietCall K F_r11_Routine [v57, x1] h55) fun v58 h59 f60 =>
    optK (binVal .neq .prim (AV.ro v54) (AV.ro v58)) fun v61 =>
    grpK v61 false
    (optK (ldaVal h59 13 (.ptr (hp).length 0)) fun v62 =>
    opt3 (quietCall K F_model_Kind [v62, x1] h59) fun v63 h64 f65 =>
    optK (ldaVal h64 13 (.ptr (hp).length 0)) fun v66 =>
    opt3 (quietCall K F_r11_Kind [v66, x1] h64) fun v67 h68 f69 =>
    optK (binVal .neq .prim (AV.ro v63) (AV.ro v67)) fun v70 =>
    some (v70, h68, (afterK hp0.length (afterK hp0.length (afterK hp0.length (afterK hp0.length f52 f56) f60) f65) f69)))
    (some (.bool true)) h59 (afterK hp0.length (afterK hp0.length f52 f56) f60) fun v71 h72 f73 =>
    grpK (AV.ro v71) false
    (optK (ldaVal h72 13 (.ptr (hp).length 0)) fun v74 =>
    opt3 (quietCall K F_model_Index [v74, x1] h72) fun v75 h76 f77 =>
    optK (ldaVal h76 13 (.ptr (hp).length 0)) fun v78 =>
    opt3 (quietCall K F_r11_Index [v78, x1] h76) fun v79 h80 f81 =>
    optK (binVal .neq .prim (AV.ro v75) (AV.ro v79)) fun v82 =>
    some (v82, h80, (afterK hp0.length (afterK hp0.length f73 f77) f81)))
    (some (.bool true)) h72 f73 fun v83 h84 f85 =>
    ifK (AV.ro v83)
    (some (finK false hp0 (.bool false) h84 f85))
    (optK (binVal .add .prim x11 (.int .i64 1)) fun v86 =>
    d_law11_ModelFinds_l0 G K L hp0 k0 m x1 x3 v86 h84 f85))
    (k0  hp ef)
theorem d_law11_ModelFinds_l0_lp (G : GT) (K : KT) (L : Nat) (hp0 : HP) (k0 : HP → Eff → KR)  : ∀ m, loopK (fun n' => codeK G 86 hp0.length K p_law11_ModelFinds L c_law11_ModelFinds_l0b n' (retK p_law11_ModelFinds a_law11_ModelFinds hp0) [(0, (fun e hp ef => k0  hp ef))]) m = fun e hp ef => d_law11_ModelFinds_l0 G K L hp0 k0 m (e 1).rd (e 3).rd (e 11).rd hp ef := by
  intro m
  induction m with
  | zero => rfl
  | succ m ih =>
    show codeK G 86 hp0.length K p_law11_ModelFinds L c_law11_ModelFinds_l0b (loopK _ m) (retK p_law11_ModelFinds a_law11_ModelFinds hp0) [(0, (fun e hp ef => k0  hp ef))] = _
    rw [ih]
    kernel_rfl
theorem d_law11_ModelFinds_l0_eq (G : GT) (K : KT) (L : Nat) (hp0 : HP) (k0 : HP → Eff → KR)  (zn : Cont) : codeK G 86 hp0.length K p_law11_ModelFinds L c_law11_ModelFinds_l0 zn (retK p_law11_ModelFinds a_law11_ModelFinds hp0) [(0, (fun e hp ef => k0  hp ef))] = fun e hp ef => d_law11_ModelFinds_l0 G K L hp0 k0 L (e 1).rd (e 3).rd (e 11).rd hp ef := d_law11_ModelFinds_l0_lp G K L hp0 k0  L
def d_law11_ModelFinds (G : GT) (K : KT) (L : Nat) (x0 x1 x2 : AV) (hp0 : HP) : KR :=
  optK (boxV 4 (AV.ro x0)) fun v1 =>
  letK (hp0 ++ [.cells v1 ty_api_Model]) fun h0 =>
  optK (ldaVal h0 4 (.ptr (hp0).length 0)) fun v2 =>
  opt3 (K F_law11_light [v2] h0) fun v3 h4 f5 =>
  optK (unVal .not (AV.ro v3)) fun v6 =>
  ifK v6
  (opt3 (K F_law11_awake [] h4) fun v7 h8 f9 =>
  some (finK false hp0 v7 h8 (afterK hp0.length (afterK hp0.length none f5) f9)))
  (optK (ldaVal h4 4 (.ptr (hp0).length 0)) fun v10 =>
  opt3 (K F_model_Link [v10, (AV.ro x1), (AV.ro x2)] h4) fun v11 h12 f13 =>
  optK (extractV (AV.ro v11) 0) fun v14 =>
  optK (extractV (AV.ro v11) 1) fun v15 =>
  optK (ldaVal h12 4 (.ptr (hp0).length 0)) fun v16 =>
  opt3 (K F_r11_Link [v16, (AV.ro x1), (AV.ro x2)] h12) fun v17 h18 f19 =>
  optK (extractV (AV.ro v17) 0) fun v20 =>
  optK (extractV (AV.ro v17) 1) fun v21 =>
  optK (ldaVal h18 4 (.ptr (hp0).length 0)) fun v22 =>
  opt3 (quietCall K F_model_Site [v22, (AV.ro x1)] h18) fun v23 h24 f25 =>
  optK (ldaVal h24 4 (.ptr (hp0).length 0)) fun v26 =>
  opt3 (quietCall K F_r11_Site [v26, (AV.ro x1)] h24) fun v27 h28 f29 =>
  optK (binVal .neq .prim (AV.ro v23) (AV.ro v27)) fun v30 =>
  grpK v30 false
  (optK (binVal .neq .prim v14 v20) fun v31 =>
  some (v31, h28, (afterK hp0.length (afterK hp0.length (afterK hp0.length (afterK hp0.length (afterK hp0.length none f5) f13) f19) f25) f29)))
  (some (.bool true)) h28 (afterK hp0.length (afterK hp0.length (afterK hp0.length (afterK hp0.length (afterK hp0.length none f5) f13) f19) f25) f29) fun v32 h33 f34 =>
  grpK (AV.ro v32) false
  (optK (binVal .neq .bool v15 v21) fun v35 =>
  some (v35, h33, f34))
  (some (.bool true)) h33 f34 fun v36 h37 f38 =>
  ifK (AV.ro v36)
  (some (finK false hp0 (.bool false) h37 f38))
  (d_law11_ModelFinds_l0 G K L hp0 (d_law11_ModelFinds_j1 G K L hp0 ) L (AV.ro x1) (.ptr (hp0).length 0) (.int .i64 0) h37 f38))
theorem d_law11_ModelFinds_eq (G : GT) (K : KT) (L : Nat) (x0 x1 x2 : AV) (hp0 : HP) : fnK G K p_law11_ModelFinds L a_law11_ModelFinds [x0, x1, x2] hp0 = d_law11_ModelFinds G K L x0 x1 x2 hp0 := by
  show codeK G 86 hp0.length K p_law11_ModelFinds L c_law11_ModelFinds (retK p_law11_ModelFinds a_law11_ModelFinds hp0) (retK p_law11_ModelFinds a_law11_ModelFinds hp0) [] (argE [x0, x1, x2]) hp0 none = _
  simp only [c_law11_ModelFinds, codeK_seq, codeK_block, codeK_scope, codeK_cond]
  rw [d_law11_ModelFinds_j1_eq G K L hp0  , d_law11_ModelFinds_l0_eq G K L hp0 (d_law11_ModelFinds_j1 G K L hp0 )  _]
  kernel_rfl
theorem law11_ModelFinds_run {C : Cfg} (h : C.T F_law11_ModelFinds = some a_law11_ModelFinds) {n : Nat} {x0 x1 x2 : AV} {hp : HP} {r : AV × HP × Eff} (hr : d_law11_ModelFinds C.G (evalCall C n) C.L x0 x1 x2 hp = some r) : evalCall C (n + 1) F_law11_ModelFinds [x0, x1, x2] hp = some r := fnK_ok h (Nat.le_of_ble_eq_true rfl) ((d_law11_ModelFinds_eq ..).trans hr)
def d_law11_light_j4 (G : GT) (K : KT) (L : Nat) (hp0 : HP)  (x3 : AV) (hp : HP) (ef : Eff) : KR :=
  optK (binVal .leq .prim x3 (.int .i64 120)) fun v20 =>
  some (finK false hp0 v20 hp ef)
theorem d_law11_light_j4_eq (G : GT) (K : KT) (L : Nat) (hp0 : HP)   : codeK G 68 hp0.length K p_law11_light L c_law11_light_j4 (retK p_law11_light a_law11_light hp0) (retK p_law11_light a_law11_light hp0) [] = fun e hp ef => d_law11_light_j4 G K L hp0  (e 3).rd hp ef := by
  kernel_rfl
def d_law11_light_j3 (G : GT) (K : KT) (L : Nat) (hp0 : HP) (kn : AV → AV → AV → HP → Eff → KR) (x1 : AV) (x3 : AV) (x4 : AV) (hp : HP) (ef : Eff) : KR :=
  optK (binVal .add .prim x4 (.int .i64 1)) fun v25 =>
  kn x1 x3 v25 hp ef
theorem d_law11_light_j3_eq (G : GT) (K : KT) (L : Nat) (hp0 : HP) (kn : AV → AV → AV → HP → Eff → KR) (z0 : Cont) : codeK G 68 hp0.length K p_law11_light L c_law11_light_j3 (fun e hp ef => kn (e 1).rd (e 3).rd (e 4).rd hp ef) (retK p_law11_light a_law11_light hp0) [(0, z0)] = fun e hp ef => d_law11_light_j3 G K L hp0 kn (e 1).rd (e 3).rd (e 4).rd hp ef := by
  kernel_rfl
def d_law11_light_j2 (G : GT) (K : KT) (L : Nat) (hp0 : HP) (kn : AV → AV → AV → HP → Eff → KR) (x1 : AV) (x3 : AV) (x4 : AV) (hp : HP) (ef : Eff) : KR :=
  optK (faVal 2 x1) fun v33 =>
  optK (ldcVal hp v33) fun v34 =>
  optK (iaVal (.slice 13) v34 x4) fun v35 =>
  optK (faVal 11 v35) fun v36 =>
  optK (ldcVal hp v36) fun v37 =>
  optK (lenVal hp .slice v37) fun v38 =>
  optK (faVal 2 x1) fun v39 =>
  optK (ldcVal hp v39) fun v40 =>
  optK (iaVal (.slice 13) v40 x4) fun v41 =>
  optK (faVal 12 v41) fun v42 =>
  optK (ldcVal hp v42) fun v43 =>
  optK (lenVal hp .slice v43) fun v44 =>
  optK (binVal .add .prim v38 v44) fun v45 =>
  optK (binVal .add .prim x3 v45) fun v46 =>
  kn x1 v46 x4 hp ef
theorem d_law11_light_j2_eq (G : GT) (K : KT) (L : Nat) (hp0 : HP) (kn : AV → AV → AV → HP → Eff → KR) (z1 z0 : Cont) : codeK G 68 hp0.length K p_law11_light L c_law11_light_j2 (fun e hp ef => kn (e 1).rd (e 3).rd (e 4).rd hp ef) (retK p_law11_light a_law11_light hp0) [(1, z1), (0, z0)] = fun e hp ef => d_law11_light_j2 G K L hp0 kn (e 1).rd (e 3).rd (e 4).rd hp ef := by
  kernel_rfl
def d_law11_light_l1 (G : GT) (K : KT) (L : Nat) (hp0 : HP) (k2 : AV → AV → AV → HP → Eff → KR) : Nat → AV → AV → AV → AV → AV → HP → Eff → KR
  | 0, _, _, _, _, _, _, _ => none
  | m + 1, x1, x3, x4, x5, x6, hp, ef =>
    optK (lenVal hp .slice x5) fun v47 =>
    optK (binVal .lss .prim x6 v47) fun v48 =>
    ifK v48
    (optK (iaVal (.slice 1) x5 x6) fun v49 =>
    optK (ldcVal hp v49) fun v50 =>
    optK (lenVal hp .slice v50) fun v51 =>
    optK (binVal .add .prim x3 v51) fun v52 =>
    optK (binVal .add .prim x6 (.int .i64 1)) fun v53 =>
    d_law11_light_l1 G K L hp0 k2 m x1 v52 x4 x5 v53 hp ef)
    (k2 x1 x3 x4 hp ef)
theorem d_law11_light_l1_lp (G : GT) (K : KT) (L : Nat) (hp0 : HP) (k2 : AV → AV → AV → HP → Eff → KR) (z1 z0 : Cont) : ∀ m, loopK (fun n' => codeK G 68 hp0.length K p_law11_light L c_law11_light_l1b n' (retK p_law11_light a_law11_light hp0) [(2, (fun e hp ef => k2 (e 1).rd (e 3).rd (e 4).rd hp ef)), (1, z1), (0, z0)]) m = fun e hp ef => d_law11_light_l1 G K L hp0 k2 m (e 1).rd (e 3).rd (e 4).rd (e 5).rd (e 6).rd hp ef := by
  intro m
  induction m with
  | zero => rfl
  | succ m ih =>
    show codeK G 68 hp0.length K p_law11_light L c_law11_light_l1b (loopK _ m) (retK p_law11_light a_law11_light hp0) [(2, (fun e hp ef => k2 (e 1).rd (e 3).rd (e 4).rd hp ef)), (1, z1), (0, z0)] = _
    rw [ih]
    kernel_rfl
theorem d_law11_light_l1_eq (G : GT) (K : KT) (L : Nat) (hp0 : HP) (k2 : AV → AV → AV → HP → Eff → KR) (z1 z0 : Cont) (zn : Cont) : codeK G 68 hp0.length K p_law11_light L c_law11_light_l1 zn (retK p_law11_light a_law11_light hp0) [(2, (fun e hp ef => k2 (e 1).rd (e 3).rd (e 4).rd hp ef)), (1, z1), (0, z0)] = fun e hp ef => d_law11_light_l1 G K L hp0 k2 L (e 1).rd (e 3).rd (e 4).rd (e 5).rd (e 6).rd hp ef := d_law11_light_l1_lp G K L hp0 k2 z1 z0 L
def d_law11_light_l0 (G : GT) (K : KT) (L : Nat) (hp0 : HP) (k0 : AV → HP → Eff → KR) : Nat → AV → AV → AV → HP → Eff → KR
  | 0, _, _, _, _, _ => none
  | m + 1, x1, x3, x4, hp, ef =>
    optK (faVal 2 x1) fun v21 =>
    optK (ldcVal hp v21) fun v22 =>
    optK (lenVal hp .slice v22) fun v23 =>
    optK (binVal .lss .prim x4 v23) fun v24 =>
    ifK v24
    (optK (faVal 2 x1) fun v26 =>
    optK (ldcVal hp v26) fun v27 =>
    optK (iaVal (.slice 13) v27 x4) fun v28 =>
    optK (ldaVal hp 13 v28) fun v29 =>
    opt3 (K F_r11_Names [v29] hp) fun v30 h31 f32 =>
    d_law11_light_l1 G K L hp0 (d_law11_light_j2 G K L hp0 (d_law11_light_j3 G K L hp0 (d_law11_light_l0 G K L hp0 k0 m))) L x1 x3 x4 (AV.ro v30) (.int .i64 0) h31 (afterK hp0.length ef f32))
    (k0 x3 hp ef)
theorem d_law11_light_l0_lp (G : GT) (K : KT) (L : Nat) (hp0 : HP) (k0 : AV → HP → Eff → KR)  : ∀ m, loopK (fun n' => codeK G 68 hp0.length K p_law11_light L c_law11_light_l0b n' (retK p_law11_light a_law11_light hp0) [(0, (fun e hp ef => k0 (e 3).rd hp ef))]) m = fun e hp ef => d_law11_light_l0 G K L hp0 k0 m (e 1).rd (e 3).rd (e 4).rd hp ef := by
  intro m
  induction m with
  | zero => rfl
  | succ m ih =>
    show codeK G 68 hp0.length K p_law11_light L c_law11_light_l0b (loopK _ m) (retK p_law11_light a_law11_light hp0) [(0, (fun e hp ef => k0 (e 3).rd hp ef))] = _
    rw [ih]
    simp only [c_law11_light_l0b, codeK_seq, codeK_block, codeK_scope, codeK_cond]
    rw [d_law11_light_j3_eq G K L hp0 (d_law11_light_l0 G K L hp0 k0 m) _, d_law11_light_j2_eq G K L hp0 (d_law11_light_j3 G K L hp0 (d_law11_light_l0 G K L hp0 k0 m)) _ _, d_law11_light_l1_eq G K L hp0 (d_law11_light_j2 G K L hp0 (d_law11_light_j3 G K L hp0 (d_law11_light_l0 G K L hp0 k0 m))) _ _ _]
    kernel_rfl
theorem d_law11_light_l0_eq (G : GT) (K : KT) (L : Nat) (hp0 : HP) (k0 : AV → HP → Eff → KR)  (zn : Cont) : codeK G 68 hp0.length K p_law11_light L c_law11_light_l0 zn (retK p_law11_light a_law11_light hp0) [(0, (fun e hp ef => k0 (e 3).rd hp ef))] = fun e hp ef => d_law11_light_l0 G K L hp0 k0 L (e 1).rd (e 3).rd (e 4).rd hp ef := d_law11_light_l0_lp G K L hp0 k0  L
def d_law11_light (G : GT) (K : KT) (L : Nat) (x0 : AV) (hp0 : HP) : KR :=
  optK (boxV 4 (AV.ro x0)) fun v1 =>
  letK (hp0 ++ [.cells v1 ty_api_Model]) fun h0 =>
  optK (faVal 2 (.ptr (hp0).length 0)) fun v2 =>
  optK (ldcVal h0 v2) fun v3 =>
  optK (lenVal h0 .slice v3) fun v4 =>
  optK (binVal .gtr .prim v4 (.int .i64 20)) fun v5 =>
  grpK v5 false
  (optK (faVal 1 (.ptr (hp0).length 0)) fun v6 =>
  optK (ldcVal h0 v6) fun v7 =>
  optK (lenVal h0 .slice v7) fun v8 =>
  optK (binVal .gtr .prim v8 (.int .i64 40)) fun v9 =>
  some (v9, h0, none))
  (some (.bool true)) h0 none fun v10 h11 f12 =>
  grpK (AV.ro v10) false
  (optK (faVal 3 (.ptr (hp0).length 0)) fun v13 =>
  optK (ldcVal h11 v13) fun v14 =>
  optK (lenVal h11 .slice v14) fun v15 =>
  optK (binVal .gtr .prim v15 (.int .i64 40)) fun v16 =>
  some (v16, h11, f12))
  (some (.bool true)) h11 f12 fun v17 h18 f19 =>
  ifK (AV.ro v17)
  (some (finK false hp0 (.bool false) h18 f19))
  (d_law11_light_l0 G K L hp0 (d_law11_light_j4 G K L hp0 ) L (.ptr (hp0).length 0) (.int .i64 0) (.int .i64 0) h18 f19)
theorem d_law11_light_eq (G : GT) (K : KT) (L : Nat) (x0 : AV) (hp0 : HP) : fnK G K p_law11_light L a_law11_light [x0] hp0 = d_law11_light G K L x0 hp0 := by
  show codeK G 68 hp0.length K p_law11_light L c_law11_light (retK p_law11_light a_law11_light hp0) (retK p_law11_light a_law11_light hp0) [] (argE [x0]) hp0 none = _
  simp only [c_law11_light, codeK_seq, codeK_block, codeK_scope, codeK_cond]
  rw [d_law11_light_j4_eq G K L hp0  , d_law11_light_l0_eq G K L hp0 (d_law11_light_j4 G K L hp0 )  _]
  kernel_rfl
theorem law11_light_run {C : Cfg} (h : C.T F_law11_light = some a_law11_light) {n : Nat} {x0 : AV} {hp : HP} {r : AV × HP × Eff} (hr : d_law11_light C.G (evalCall C n) C.L x0 hp = some r) : evalCall C (n + 1) F_law11_light [x0] hp = some r := fnK_ok h (Nat.le_of_ble_eq_true rfl) ((d_law11_light_eq ..).trans hr)
def d_model_Link (G : GT) (K : KT) (L : Nat) (x0 x1 x2 : AV) (hp0 : HP) : KR :=
  optK (boxV 4 (AV.ro x0)) fun v1 =>
  letK (hp0 ++ [.cells v1 ty_api_Model]) fun h0 =>
  optK (boxV 1 (AV.ro x1)) fun v3 =>
  letK (h0 ++ [.cells v3 ty_string]) fun h2 =>
  optK (boxV 1 (AV.ro x2)) fun v5 =>
  letK (h2 ++ [.cells v5 ty_string]) fun h4 =>
  optK (faVal 3 (.ptr (hp0).length 0)) fun v6 =>
  optK (ldcVal h4 v6) fun v7 =>
  opt3 (K F_slices_IndexFunc_Lapi_Link_api_Link_ [v7, (.fn F_model_Link_1 [] [(.ptr (h0).length 0), (.ptr (h2).length 0)])] h4) fun v8 h9 f10 =>
  optK (binVal .lss .prim (AV.ro v8) (.int .i64 0)) fun v11 =>
  ifK v11
  (some (finK false hp0 (.tup [(AV.nm (.int .i64 0)), (AV.nm (.bool false))]) h9 (afterK hp0.length none f10)))
  (optK (faVal 3 (.ptr (hp0).length 0)) fun v12 =>
  optK (ldcVal h9 v12) fun v13 =>
  optK (iaVal (.slice 3) v13 (AV.ro v8)) fun v14 =>
  optK (faVal 2 v14) fun v15 =>
  optK (ldcVal h9 v15) fun v16 =>
  some (finK false hp0 (.tup [(AV.nm v16), (AV.nm (.bool true))]) h9 (afterK hp0.length none f10)))
theorem d_model_Link_eq (G : GT) (K : KT) (L : Nat) (x0 x1 x2 : AV) (hp0 : HP) : fnK G K p_model_Link L a_model_Link [x0, x1, x2] hp0 = d_model_Link G K L x0 x1 x2 hp0 := by
  kernel_rfl
theorem model_Link_run {C : Cfg} (h : C.T F_model_Link = some a_model_Link) {n : Nat} {x0 x1 x2 : AV} {hp : HP} {r : AV × HP × Eff} (hr : d_model_Link C.G (evalCall C n) C.L x0 x1 x2 hp = some r) : evalCall C (n + 1) F_model_Link [x0, x1, x2] hp = some r := fnK_ok h (Nat.le_of_ble_eq_true rfl) ((d_model_Link_eq ..).trans hr)
def d_r11_Link_j1 (G : GT) (K : KT) (L : Nat) (hp0 : HP)   (hp : HP) (ef : Eff) : KR :=
  some (finK false hp0 (.tup [(AV.nm (.int .i64 0)), (AV.nm (.bool false))]) hp ef)
theorem d_r11_Link_j1_eq (G : GT) (K : KT) (L : Nat) (hp0 : HP)   : codeK G 40 hp0.length K p_r11_Link L c_r11_Link_j1 (retK p_r11_Link a_r11_Link hp0) (retK p_r11_Link a_r11_Link hp0) [] = fun e hp ef => d_r11_Link_j1 G K L hp0   hp ef := by
  kernel_rfl
def d_r11_Link_l0 (G : GT) (K : KT) (L : Nat) (hp0 : HP) (k0 : HP → Eff → KR) : Nat → AV → AV → AV → AV → HP → Eff → KR
  | 0, _, _, _, _, _, _ => none
  | m + 1, x1, x2, x3, x8, hp, ef =>
    optK (faVal 3 x3) fun v2 =>
    optK (ldcVal hp v2) fun v3 =>
    optK (lenVal hp .slice v3) fun v4 =>
    optK (binVal .lss .prim x8 v4) fun v5 =>
    ifK v5
    (optK (faVal 3 x3) fun v6 =>
    optK (ldcVal hp v6) fun v7 =>
    optK (iaVal (.slice 3) v7 x8) fun v8 =>
    optK (faVal 0 v8) fun v9 =>
    optK (ldcVal hp v9) fun v10 =>
    optK (binVal .eql .prim v10 x1) fun v11 =>
    grpK v11 true
    (optK (faVal 3 x3) fun v12 =>
    optK (ldcVal hp v12) fun v13 =>
    optK (iaVal (.slice 3) v13 x8) fun v14 =>
    optK (faVal 1 v14) fun v15 =>
    optK (ldcVal hp v15) fun v16 =>
    optK (binVal .eql .prim v16 x2) fun v17 =>
    some (v17, hp, ef))
    (some (.bool false)) hp ef fun v18 h19 f20 =>
    ifK (AV.ro v18)
    (optK (faVal 3 x3) fun v21 =>
    optK (ldcVal h19 v21) fun v22 =>
    optK (iaVal (.slice 3) v22 x8) fun v23 =>
    optK (faVal 2 v23) fun v24 =>
    optK (ldcVal h19 v24) fun v25 =>
    some (finK false hp0 (.tup [(AV.nm v25), (AV.nm (.bool true))]) h19 f20))
    (optK (binVal .add .prim x8 (.int .i64 1)) fun v26 =>
    d_r11_Link_l0 G K L hp0 k0 m x1 x2 x3 v26 h19 f20))
    (k0  hp ef)
theorem d_r11_Link_l0_lp (G : GT) (K : KT) (L : Nat) (hp0 : HP) (k0 : HP → Eff → KR)  : ∀ m, loopK (fun n' => codeK G 40 hp0.length K p_r11_Link L c_r11_Link_l0b n' (retK p_r11_Link a_r11_Link hp0) [(0, (fun e hp ef => k0  hp ef))]) m = fun e hp ef => d_r11_Link_l0 G K L hp0 k0 m (e 1).rd (e 2).rd (e 3).rd (e 8).rd hp ef := by
  intro m
  induction m with
  | zero => rfl
  | succ m ih =>
    show codeK G 40 hp0.length K p_r11_Link L c_r11_Link_l0b (loopK _ m) (retK p_r11_Link a_r11_Link hp0) [(0, (fun e hp ef => k0  hp ef))] = _
    rw [ih]
    kernel_rfl
theorem d_r11_Link_l0_eq (G : GT) (K : KT) (L : Nat) (hp0 : HP) (k0 : HP → Eff → KR)  (zn : Cont) : codeK G 40 hp0.length K p_r11_Link L c_r11_Link_l0 zn (retK p_r11_Link a_r11_Link hp0) [(0, (fun e hp ef => k0  hp ef))] = fun e hp ef => d_r11_Link_l0 G K L hp0 k0 L (e 1).rd (e 2).rd (e 3).rd (e 8).rd hp ef := d_r11_Link_l0_lp G K L hp0 k0  L
def d_r11_Link (G : GT) (K : KT) (L : Nat) (x0 x1 x2 : AV) (hp0 : HP) : KR :=
  optK (boxV 4 (AV.ro x0)) fun v1 =>
  letK (hp0 ++ [.cells v1 ty_api_Model]) fun h0 =>
  d_r11_Link_l0 G K L hp0 (d_r11_Link_j1 G K L hp0 ) L (AV.ro x1) (AV.ro x2) (.ptr (hp0).length 0) (.int .i64 0) h0 none
theorem d_r11_Link_eq (G : GT) (K : KT) (L : Nat) (x0 x1 x2 : AV) (hp0 : HP) : fnK G K p_r11_Link L a_r11_Link [x0, x1, x2] hp0 = d_r11_Link G K L x0 x1 x2 hp0 := by
  show codeK G 40 hp0.length K p_r11_Link L c_r11_Link (retK p_r11_Link a_r11_Link hp0) (retK p_r11_Link a_r11_Link hp0) [] (argE [x0, x1, x2]) hp0 none = _
  simp only [c_r11_Link, codeK_seq, codeK_block, codeK_scope, codeK_cond]
  rw [d_r11_Link_j1_eq G K L hp0  , d_r11_Link_l0_eq G K L hp0 (d_r11_Link_j1 G K L hp0 )  _]
  kernel_rfl
theorem r11_Link_run {C : Cfg} (h : C.T F_r11_Link = some a_r11_Link) {n : Nat} {x0 x1 x2 : AV} {hp : HP} {r : AV × HP × Eff} (hr : d_r11_Link C.G (evalCall C n) C.L x0 x1 x2 hp = some r) : evalCall C (n + 1) F_r11_Link [x0, x1, x2] hp = some r := fnK_ok h (Nat.le_of_ble_eq_true rfl) ((d_r11_Link_eq ..).trans hr)
def d_model_Site (G : GT) (K : KT) (L : Nat) (x0 x1 : AV) (hp0 : HP) : KR :=
  optK (boxV 4 (AV.ro x0)) fun v1 =>
  letK (hp0 ++ [.cells v1 ty_api_Model]) fun h0 =>
  optK (boxV 1 (AV.ro x1)) fun v3 =>
  letK (h0 ++ [.cells v3 ty_string]) fun h2 =>
  optK (faVal 2 (.ptr (hp0).length 0)) fun v4 =>
  optK (ldcVal h2 v4) fun v5 =>
  opt3 (K F_slices_IndexFunc_Lapi_SiteDecl_api_SiteDecl_ [v5, (.fn F_model_Site_1 [] [(.ptr (h0).length 0)])] h2) fun v6 h7 f8 =>
  some (finK false hp0 v6 h7 (afterK hp0.length none f8))
theorem d_model_Site_eq (G : GT) (K : KT) (L : Nat) (x0 x1 : AV) (hp0 : HP) : fnK G K p_model_Site L a_model_Site [x0, x1] hp0 = d_model_Site G K L x0 x1 hp0 := by
  kernel_rfl
theorem model_Site_run {C : Cfg} (h : C.T F_model_Site = some a_model_Site) {n : Nat} {x0 x1 : AV} {hp : HP} {r : AV × HP × Eff} (hr : d_model_Site C.G (evalCall C n) C.L x0 x1 hp = some r) : evalCall C (n + 1) F_model_Site [x0, x1] hp = some r := fnK_ok h (Nat.le_of_ble_eq_true rfl) ((d_model_Site_eq ..).trans hr)
def d_r11_Site_j1 (G : GT) (K : KT) (L : Nat) (hp0 : HP)   (hp : HP) (ef : Eff) : KR :=
  some (finK false hp0 (.int .i64 (-1)) hp ef)
theorem d_r11_Site_j1_eq (G : GT) (K : KT) (L : Nat) (hp0 : HP)   : codeK G 22 hp0.length K p_r11_Site L c_r11_Site_j1 (retK p_r11_Site a_r11_Site hp0) (retK p_r11_Site a_r11_Site hp0) [] = fun e hp ef => d_r11_Site_j1 G K L hp0   hp ef := by
  kernel_rfl
def d_r11_Site_l0 (G : GT) (K : KT) (L : Nat) (hp0 : HP) (k0 : HP → Eff → KR) : Nat → AV → AV → AV → AV → HP → Eff → KR
  | 0, _, _, _, _, _, _ => none
  | m + 1, x1, x2, x5, y5, hp, ef =>
    optK (faVal 2 x2) fun v2 =>
    optK (ldcVal hp v2) fun v3 =>
    optK (lenVal hp .slice v3) fun v4 =>
    optK (binVal .lss .prim x5 v4) fun v5 =>
    ifK v5
    (optK (faVal 2 x2) fun v6 =>
    optK (ldcVal hp v6) fun v7 =>
    optK (iaVal (.slice 13) v7 x5) fun v8 =>
    optK (faVal 0 v8) fun v9 =>
    optK (ldcVal hp v9) fun v10 =>
    optK (binVal .eql .prim v10 x1) fun v11 =>
    ifK v11
    (some (finK false hp0 y5 hp ef))
    (optK (binVal .add .prim x5 (.int .i64 1)) fun v12 =>
    d_r11_Site_l0 G K L hp0 k0 m x1 x2 v12 v12 hp ef))
    (k0  hp ef)
theorem d_r11_Site_l0_lp (G : GT) (K : KT) (L : Nat) (hp0 : HP) (k0 : HP → Eff → KR)  : ∀ m, loopK (fun n' => codeK G 22 hp0.length K p_r11_Site L c_r11_Site_l0b n' (retK p_r11_Site a_r11_Site hp0) [(0, (fun e hp ef => k0  hp ef))]) m = fun e hp ef => d_r11_Site_l0 G K L hp0 k0 m (e 1).rd (e 2).rd (e 5).rd (e 5).val hp ef := by
  intro m
  induction m with
  | zero => rfl
  | succ m ih =>
    show codeK G 22 hp0.length K p_r11_Site L c_r11_Site_l0b (loopK _ m) (retK p_r11_Site a_r11_Site hp0) [(0, (fun e hp ef => k0  hp ef))] = _
    rw [ih]
    kernel_rfl
theorem d_r11_Site_l0_eq (G : GT) (K : KT) (L : Nat) (hp0 : HP) (k0 : HP → Eff → KR)  (zn : Cont) : codeK G 22 hp0.length K p_r11_Site L c_r11_Site_l0 zn (retK p_r11_Site a_r11_Site hp0) [(0, (fun e hp ef => k0  hp ef))] = fun e hp ef => d_r11_Site_l0 G K L hp0 k0 L (e 1).rd (e 2).rd (e 5).rd (e 5).val hp ef := d_r11_Site_l0_lp G K L hp0 k0  L
def d_r11_Site (G : GT) (K : KT) (L : Nat) (x0 x1 : AV) (hp0 : HP) : KR :=
  optK (boxV 4 (AV.ro x0)) fun v1 =>
  letK (hp0 ++ [.cells v1 ty_api_Model]) fun h0 =>
  d_r11_Site_l0 G K L hp0 (d_r11_Site_j1 G K L hp0 ) L (AV.ro x1) (.ptr (hp0).length 0) (.int .i64 0) (.int .i64 0) h0 none
theorem d_r11_Site_eq (G : GT) (K : KT) (L : Nat) (x0 x1 : AV) (hp0 : HP) : fnK G K p_r11_Site L a_r11_Site [x0, x1] hp0 = d_r11_Site G K L x0 x1 hp0 := by
  show codeK G 22 hp0.length K p_r11_Site L c_r11_Site (retK p_r11_Site a_r11_Site hp0) (retK p_r11_Site a_r11_Site hp0) [] (argE [x0, x1]) hp0 none = _
  simp only [c_r11_Site, codeK_seq, codeK_block, codeK_scope, codeK_cond]
  rw [d_r11_Site_j1_eq G K L hp0  , d_r11_Site_l0_eq G K L hp0 (d_r11_Site_j1 G K L hp0 )  _]
  kernel_rfl
theorem r11_Site_run {C : Cfg} (h : C.T F_r11_Site = some a_r11_Site) {n : Nat} {x0 x1 : AV} {hp : HP} {r : AV × HP × Eff} (hr : d_r11_Site C.G (evalCall C n) C.L x0 x1 hp = some r) : evalCall C (n + 1) F_r11_Site [x0, x1] hp = some r := fnK_ok h (Nat.le_of_ble_eq_true rfl) ((d_r11_Site_eq ..).trans hr)
def d_model_Routine (G : GT) (K : KT) (L : Nat) (x0 x1 : AV) (hp0 : HP) : KR :=
  optK (boxV 13 (AV.ro x0)) fun v1 =>
  letK (hp0 ++ [.cells v1 ty_api_SiteDecl]) fun h0 =>
  optK (boxV 1 (AV.ro x1)) fun v3 =>
  letK (h0 ++ [.cells v3 ty_string]) fun h2 =>
  optK (faVal 10 (.ptr (hp0).length 0)) fun v4 =>
  optK (ldcVal h2 v4) fun v5 =>
  opt3 (K F_slices_IndexFunc_Lapi_Routine_api_Routine_ [v5, (.fn F_model_Routine_1 [] [(.ptr (h0).length 0)])] h2) fun v6 h7 f8 =>
  some (finK false hp0 v6 h7 (afterK hp0.length none f8))
theorem d_model_Routine_eq (G : GT) (K : KT) (L : Nat) (x0 x1 : AV) (hp0 : HP) : fnK G K p_model_Routine L a_model_Routine [x0, x1] hp0 = d_model_Routine G K L x0 x1 hp0 := by
  kernel_rfl
theorem model_Routine_run {C : Cfg} (h : C.T F_model_Routine = some a_model_Routine) {n : Nat} {x0 x1 : AV} {hp : HP} {r : AV × HP × Eff} (hr : d_model_Routine C.G (evalCall C n) C.L x0 x1 hp = some r) : evalCall C (n + 1) F_model_Routine [x0, x1] hp = some r := fnK_ok h (Nat.le_of_ble_eq_true rfl) ((d_model_Routine_eq ..).trans hr)
def d_r11_Routine (G : GT) (K : KT) (L : Nat) (x0 x1 : AV) (hp0 : HP) : KR :=
  optK (boxV 13 (AV.ro x0)) fun v1 =>
  letK (hp0 ++ [.cells v1 ty_api_SiteDecl]) fun h0 =>
  optK (ldaVal h0 13 (.ptr (hp0).length 0)) fun v2 =>
  opt3 (K F_r11_Names [v2] h0) fun v3 h4 f5 =>
  optK (iaVal (.slice 1) (AV.ro v3) (.int .i64 9)) fun v6 =>
  optK (ldcVal h4 v6) fun v7 =>
  opt3 (K F_r07_Find [v7, (AV.ro x1)] h4) fun v8 h9 f10 =>
  some (finK false hp0 v8 h9 (afterK hp0.length (afterK hp0.length none f5) f10))
theorem d_r11_Routine_eq (G : GT) (K : KT) (L : Nat) (x0 x1 : AV) (hp0 : HP) : fnK G K p_r11_Routine L a_r11_Routine [x0, x1] hp0 = d_r11_Routine G K L x0 x1 hp0 := by
  kernel_rfl
theorem r11_Routine_run {C : Cfg} (h : C.T F_r11_Routine = some a_r11_Routine) {n : Nat} {x0 x1 : AV} {hp : HP} {r : AV × HP × Eff} (hr : d_r11_Routine C.G (evalCall C n) C.L x0 x1 hp = some r) : evalCall C (n + 1) F_r11_Routine [x0, x1] hp = some r := fnK_ok h (Nat.le_of_ble_eq_true rfl) ((d_r11_Routine_eq ..).trans hr)
def d_model_Kind (G : GT) (K : KT) (L : Nat) (x0 x1 : AV) (hp0 : HP) : KR :=
  optK (boxV 13 (AV.ro x0)) fun v1 =>
  letK (hp0 ++ [.cells v1 ty_api_SiteDecl]) fun h0 =>
  optK (ldaVal h0 13 (.ptr (hp0).length 0)) fun v2 =>
  opt3 (K F_model_place [v2, (AV.ro x1)] h0) fun v3 h4 f5 =>
  optK (extractV (AV.ro v3) 0) fun v6 =>
  optK (extractV (AV.ro v3) 1) fun v7 =>
  some (finK false hp0 v6 h4 (afterK hp0.length none f5))
theorem d_model_Kind_eq (G : GT) (K : KT) (L : Nat) (x0 x1 : AV) (hp0 : HP) : fnK G K p_model_Kind L a_model_Kind [x0, x1] hp0 = d_model_Kind G K L x0 x1 hp0 := by
  kernel_rfl
theorem model_Kind_run {C : Cfg} (h : C.T F_model_Kind = some a_model_Kind) {n : Nat} {x0 x1 : AV} {hp : HP} {r : AV × HP × Eff} (hr : d_model_Kind C.G (evalCall C n) C.L x0 x1 hp = some r) : evalCall C (n + 1) F_model_Kind [x0, x1] hp = some r := fnK_ok h (Nat.le_of_ble_eq_true rfl) ((d_model_Kind_eq ..).trans hr)
def d_r11_Kind_j1 (G : GT) (K : KT) (L : Nat) (hp0 : HP)   (hp : HP) (ef : Eff) : KR :=
  some (finK false hp0 (.str []) hp ef)
theorem d_r11_Kind_j1_eq (G : GT) (K : KT) (L : Nat) (hp0 : HP)   : codeK G 28 hp0.length K p_r11_Kind L c_r11_Kind_j1 (retK p_r11_Kind a_r11_Kind hp0) (retK p_r11_Kind a_r11_Kind hp0) [] = fun e hp ef => d_r11_Kind_j1 G K L hp0   hp ef := by
  kernel_rfl
def d_r11_Kind_l0 (G : GT) (K : KT) (L : Nat) (hp0 : HP) (k0 : HP → Eff → KR) : Nat → AV → AV → AV → AV → HP → Eff → KR
  | 0, _, _, _, _, _, _ => none
  | m + 1, x1, x5, x6, x7, hp, ef =>
    optK (lenVal hp .slice x5) fun v8 =>
    optK (binVal .lss .prim x7 v8) fun v9 =>
    ifK v9
    (optK (iaVal (.slice 1) x5 x7) fun v10 =>
    optK (ldcVal hp v10) fun v11 =>
    opt3 (K F_r07_Find [v11, x1] hp) fun v12 h13 f14 =>
    optK (binVal .geq .prim (AV.ro v12) (.int .i64 0)) fun v15 =>
    ifK v15
    (optK (iaVal (.slice 1) x6 x7) fun v16 =>
    optK (ldcVal h13 v16) fun v17 =>
    some (finK false hp0 v17 h13 (afterK hp0.length ef f14)))
    (optK (binVal .add .prim x7 (.int .i64 1)) fun v18 =>
    d_r11_Kind_l0 G K L hp0 k0 m x1 x5 x6 v18 h13 (afterK hp0.length ef f14)))
    (k0  hp ef)
theorem d_r11_Kind_l0_lp (G : GT) (K : KT) (L : Nat) (hp0 : HP) (k0 : HP → Eff → KR)  : ∀ m, loopK (fun n' => codeK G 28 hp0.length K p_r11_Kind L c_r11_Kind_l0b n' (retK p_r11_Kind a_r11_Kind hp0) [(0, (fun e hp ef => k0  hp ef))]) m = fun e hp ef => d_r11_Kind_l0 G K L hp0 k0 m (e 1).rd (e 5).rd (e 6).rd (e 7).rd hp ef := by
  intro m
  induction m with
  | zero => rfl
  | succ m ih =>
    show codeK G 28 hp0.length K p_r11_Kind L c_r11_Kind_l0b (loopK _ m) (retK p_r11_Kind a_r11_Kind hp0) [(0, (fun e hp ef => k0  hp ef))] = _
    rw [ih]
    kernel_rfl
theorem d_r11_Kind_l0_eq (G : GT) (K : KT) (L : Nat) (hp0 : HP) (k0 : HP → Eff → KR)  (zn : Cont) : codeK G 28 hp0.length K p_r11_Kind L c_r11_Kind_l0 zn (retK p_r11_Kind a_r11_Kind hp0) [(0, (fun e hp ef => k0  hp ef))] = fun e hp ef => d_r11_Kind_l0 G K L hp0 k0 L (e 1).rd (e 5).rd (e 6).rd (e 7).rd hp ef := d_r11_Kind_l0_lp G K L hp0 k0  L
def d_r11_Kind (G : GT) (K : KT) (L : Nat) (x0 x1 : AV) (hp0 : HP) : KR :=
  optK (boxV 13 (AV.ro x0)) fun v1 =>
  letK (hp0 ++ [.cells v1 ty_api_SiteDecl]) fun h0 =>
  optK (ldaVal h0 13 (.ptr (hp0).length 0)) fun v2 =>
  opt3 (K F_r11_Names [v2] h0) fun v3 h4 f5 =>
  opt2 (litV ty_string 1 [(.str [118, 97, 114]), (.str [114, 101, 115, 111, 117, 114, 99, 101]), (.str [115, 116, 111, 114, 101]), (.str [98, 101, 108, 116]), (.str [113, 117, 101, 117, 101]), (.str [115, 116, 114, 101, 97, 109]), (.str [116, 97, 108, 108, 121]), (.str [108, 101, 118, 101, 108]), (.str [99, 111, 117, 110, 116]), (.str [114, 111, 117, 116, 105, 110, 101])] h4) fun v6 h7 =>
  d_r11_Kind_l0 G K L hp0 (d_r11_Kind_j1 G K L hp0 ) L (AV.ro x1) (AV.ro v3) (AV.ro v6) (.int .i64 0) h7 (afterK hp0.length none f5)
theorem d_r11_Kind_eq (G : GT) (K : KT) (L : Nat) (x0 x1 : AV) (hp0 : HP) : fnK G K p_r11_Kind L a_r11_Kind [x0, x1] hp0 = d_r11_Kind G K L x0 x1 hp0 := by
  show codeK G 28 hp0.length K p_r11_Kind L c_r11_Kind (retK p_r11_Kind a_r11_Kind hp0) (retK p_r11_Kind a_r11_Kind hp0) [] (argE [x0, x1]) hp0 none = _
  simp only [c_r11_Kind, codeK_seq, codeK_block, codeK_scope, codeK_cond]
  rw [d_r11_Kind_j1_eq G K L hp0  , d_r11_Kind_l0_eq G K L hp0 (d_r11_Kind_j1 G K L hp0 )  _]
  kernel_rfl
theorem r11_Kind_run {C : Cfg} (h : C.T F_r11_Kind = some a_r11_Kind) {n : Nat} {x0 x1 : AV} {hp : HP} {r : AV × HP × Eff} (hr : d_r11_Kind C.G (evalCall C n) C.L x0 x1 hp = some r) : evalCall C (n + 1) F_r11_Kind [x0, x1] hp = some r := fnK_ok h (Nat.le_of_ble_eq_true rfl) ((d_r11_Kind_eq ..).trans hr)
def d_model_Index (G : GT) (K : KT) (L : Nat) (x0 x1 : AV) (hp0 : HP) : KR :=
  optK (boxV 13 (AV.ro x0)) fun v1 =>
  letK (hp0 ++ [.cells v1 ty_api_SiteDecl]) fun h0 =>
  optK (ldaVal h0 13 (.ptr (hp0).length 0)) fun v2 =>
  opt3 (K F_model_place [v2, (AV.ro x1)] h0) fun v3 h4 f5 =>
  optK (extractV (AV.ro v3) 0) fun v6 =>
  optK (extractV (AV.ro v3) 1) fun v7 =>
  some (finK false hp0 v7 h4 (afterK hp0.length none f5))
theorem d_model_Index_eq (G : GT) (K : KT) (L : Nat) (x0 x1 : AV) (hp0 : HP) : fnK G K p_model_Index L a_model_Index [x0, x1] hp0 = d_model_Index G K L x0 x1 hp0 := by
  kernel_rfl
theorem model_Index_run {C : Cfg} (h : C.T F_model_Index = some a_model_Index) {n : Nat} {x0 x1 : AV} {hp : HP} {r : AV × HP × Eff} (hr : d_model_Index C.G (evalCall C n) C.L x0 x1 hp = some r) : evalCall C (n + 1) F_model_Index [x0, x1] hp = some r := fnK_ok h (Nat.le_of_ble_eq_true rfl) ((d_model_Index_eq ..).trans hr)
def d_r11_Index_j1 (G : GT) (K : KT) (L : Nat) (hp0 : HP)   (hp : HP) (ef : Eff) : KR :=
  some (finK false hp0 (.int .i64 (-1)) hp ef)
theorem d_r11_Index_j1_eq (G : GT) (K : KT) (L : Nat) (hp0 : HP)   : codeK G 25 hp0.length K p_r11_Index L c_r11_Index_j1 (retK p_r11_Index a_r11_Index hp0) (retK p_r11_Index a_r11_Index hp0) [] = fun e hp ef => d_r11_Index_j1 G K L hp0   hp ef := by
  kernel_rfl
def d_r11_Index_l0 (G : GT) (K : KT) (L : Nat) (hp0 : HP) (k0 : HP → Eff → KR) : Nat → AV → AV → AV → HP → Eff → KR
  | 0, _, _, _, _, _ => none
  | m + 1, x1, x5, x6, hp, ef =>
    optK (lenVal hp .slice x5) fun v6 =>
    optK (binVal .lss .prim x6 v6) fun v7 =>
    ifK v7
    (optK (iaVal (.slice 1) x5 x6) fun v8 =>
    optK (ldcVal hp v8) fun v9 =>
    opt3 (K F_r07_Find [v9, x1] hp) fun v10 h11 f12 =>
    optK (binVal .geq .prim (AV.ro v10) (.int .i64 0)) fun v13 =>
    ifK v13
    (some (finK false hp0 v10 h11 (afterK hp0.length ef f12)))
    (optK (binVal .add .prim x6 (.int .i64 1)) fun v14 =>
    d_r11_Index_l0 G K L hp0 k0 m x1 x5 v14 h11 (afterK hp0.length ef f12)))
    (k0  hp ef)
theorem d_r11_Index_l0_lp (G : GT) (K : KT) (L : Nat) (hp0 : HP) (k0 : HP → Eff → KR)  : ∀ m, loopK (fun n' => codeK G 25 hp0.length K p_r11_Index L c_r11_Index_l0b n' (retK p_r11_Index a_r11_Index hp0) [(0, (fun e hp ef => k0  hp ef))]) m = fun e hp ef => d_r11_Index_l0 G K L hp0 k0 m (e 1).rd (e 5).rd (e 6).rd hp ef := by
  intro m
  induction m with
  | zero => rfl
  | succ m ih =>
    show codeK G 25 hp0.length K p_r11_Index L c_r11_Index_l0b (loopK _ m) (retK p_r11_Index a_r11_Index hp0) [(0, (fun e hp ef => k0  hp ef))] = _
    rw [ih]
    kernel_rfl
theorem d_r11_Index_l0_eq (G : GT) (K : KT) (L : Nat) (hp0 : HP) (k0 : HP → Eff → KR)  (zn : Cont) : codeK G 25 hp0.length K p_r11_Index L c_r11_Index_l0 zn (retK p_r11_Index a_r11_Index hp0) [(0, (fun e hp ef => k0  hp ef))] = fun e hp ef => d_r11_Index_l0 G K L hp0 k0 L (e 1).rd (e 5).rd (e 6).rd hp ef := d_r11_Index_l0_lp G K L hp0 k0  L
def d_r11_Index (G : GT) (K : KT) (L : Nat) (x0 x1 : AV) (hp0 : HP) : KR :=
  optK (boxV 13 (AV.ro x0)) fun v1 =>
  letK (hp0 ++ [.cells v1 ty_api_SiteDecl]) fun h0 =>
  optK (ldaVal h0 13 (.ptr (hp0).length 0)) fun v2 =>
  opt3 (K F_r11_Names [v2] h0) fun v3 h4 f5 =>
  d_r11_Index_l0 G K L hp0 (d_r11_Index_j1 G K L hp0 ) L (AV.ro x1) (AV.ro v3) (.int .i64 0) h4 (afterK hp0.length none f5)
theorem d_r11_Index_eq (G : GT) (K : KT) (L : Nat) (x0 x1 : AV) (hp0 : HP) : fnK G K p_r11_Index L a_r11_Index [x0, x1] hp0 = d_r11_Index G K L x0 x1 hp0 := by
  show codeK G 25 hp0.length K p_r11_Index L c_r11_Index (retK p_r11_Index a_r11_Index hp0) (retK p_r11_Index a_r11_Index hp0) [] (argE [x0, x1]) hp0 none = _
  simp only [c_r11_Index, codeK_seq, codeK_block, codeK_scope, codeK_cond]
  rw [d_r11_Index_j1_eq G K L hp0  , d_r11_Index_l0_eq G K L hp0 (d_r11_Index_j1 G K L hp0 )  _]
  kernel_rfl
theorem r11_Index_run {C : Cfg} (h : C.T F_r11_Index = some a_r11_Index) {n : Nat} {x0 x1 : AV} {hp : HP} {r : AV × HP × Eff} (hr : d_r11_Index C.G (evalCall C n) C.L x0 x1 hp = some r) : evalCall C (n + 1) F_r11_Index [x0, x1] hp = some r := fnK_ok h (Nat.le_of_ble_eq_true rfl) ((d_r11_Index_eq ..).trans hr)
def d_r11_Names_j9 (G : GT) (K : KT) (L : Nat) (hp0 : HP)  (y3 : AV) (hp : HP) (ef : Eff) : KR :=
  some (finK false hp0 y3 hp ef)
theorem d_r11_Names_j9_eq (G : GT) (K : KT) (L : Nat) (hp0 : HP)   : codeK G 131 hp0.length K p_r11_Names L c_r11_Names_j9 (retK p_r11_Names a_r11_Names hp0) (retK p_r11_Names a_r11_Names hp0) [] = fun e hp ef => d_r11_Names_j9 G K L hp0  (e 3).val hp ef := by
  kernel_rfl
def d_r11_Names_l8 (G : GT) (K : KT) (L : Nat) (hp0 : HP) (k8 : AV → HP → Eff → KR) : Nat → AV → AV → AV → AV → HP → Eff → KR
  | 0, _, _, _, _, _, _ => none
  | m + 1, x1, x3, y3, x8, hp, ef =>
    optK (faVal 10 x1) fun v29 =>
    optK (ldcVal hp v29) fun v30 =>
    optK (lenVal hp .slice v30) fun v31 =>
    optK (binVal .lss .prim x8 v31) fun v32 =>
    ifK v32
    (optK (iaVal (.slice 1) x3 (.int .i64 9)) fun v33 =>
    opt3 (ldtV hp0.length v33 hp ef) fun v34 h35 f36 =>
    optK (faVal 10 x1) fun v37 =>
    optK (ldcVal h35 v37) fun v38 =>
    optK (iaVal (.slice 4) v38 x8) fun v39 =>
    optK (faVal 0 v39) fun v40 =>
    optK (ldcVal h35 v40) fun v41 =>
    opt2 (litV ty_string 1 [v41] h35) fun v42 h43 =>
    optK (appV 1 16 v34 (AV.ro v42) h43) fun v44 =>
    optK (iaVal (.slice 1) x3 (.int .i64 9)) fun v45 =>
    opt2 (sttV hp0.length v45 v44 h43 f36) fun h46 f47 =>
    optK (binVal .add .prim x8 (.int .i64 1)) fun v48 =>
    d_r11_Names_l8 G K L hp0 k8 m x1 x3 y3 v48 h46 f47)
    (k8 y3 hp ef)
theorem d_r11_Names_l8_lp (G : GT) (K : KT) (L : Nat) (hp0 : HP) (k8 : AV → HP → Eff → KR)  : ∀ m, loopK (fun n' => codeK G 131 hp0.length K p_r11_Names L c_r11_Names_l8b n' (retK p_r11_Names a_r11_Names hp0) [(8, (fun e hp ef => k8 (e 3).val hp ef))]) m = fun e hp ef => d_r11_Names_l8 G K L hp0 k8 m (e 1).rd (e 3).rd (e 3).val (e 8).rd hp ef := by
  intro m
  induction m with
  | zero => rfl
  | succ m ih =>
    show codeK G 131 hp0.length K p_r11_Names L c_r11_Names_l8b (loopK _ m) (retK p_r11_Names a_r11_Names hp0) [(8, (fun e hp ef => k8 (e 3).val hp ef))] = _
    rw [ih]
    kernel_rfl
theorem d_r11_Names_l8_eq (G : GT) (K : KT) (L : Nat) (hp0 : HP) (k8 : AV → HP → Eff → KR)  (zn : Cont) : codeK G 131 hp0.length K p_r11_Names L c_r11_Names_l8 zn (retK p_r11_Names a_r11_Names hp0) [(8, (fun e hp ef => k8 (e 3).val hp ef))] = fun e hp ef => d_r11_Names_l8 G K L hp0 k8 L (e 1).rd (e 3).rd (e 3).val (e 8).rd hp ef := d_r11_Names_l8_lp G K L hp0 k8  L
def d_r11_Names_j7 (G : GT) (K : KT) (L : Nat) (hp0 : HP)  (x1 : AV) (x3 : AV) (y3 : AV) (hp : HP) (ef : Eff) : KR :=
  optK (faVal 5 x1) fun v4 =>
  optK (ldcVal hp v4) fun v5 =>
  optK (iaVal (.slice 1) x3 (.int .i64 4)) fun v6 =>
  opt2 (sttV hp0.length v6 v5 hp ef) fun h7 f8 =>
  optK (faVal 6 x1) fun v9 =>
  optK (ldcVal h7 v9) fun v10 =>
  optK (iaVal (.slice 1) x3 (.int .i64 5)) fun v11 =>
  opt2 (sttV hp0.length v11 v10 h7 f8) fun h12 f13 =>
  optK (faVal 7 x1) fun v14 =>
  optK (ldcVal h12 v14) fun v15 =>
  optK (iaVal (.slice 1) x3 (.int .i64 6)) fun v16 =>
  opt2 (sttV hp0.length v16 v15 h12 f13) fun h17 f18 =>
  optK (faVal 8 x1) fun v19 =>
  optK (ldcVal h17 v19) fun v20 =>
  optK (iaVal (.slice 1) x3 (.int .i64 7)) fun v21 =>
  opt2 (sttV hp0.length v21 v20 h17 f18) fun h22 f23 =>
  optK (faVal 9 x1) fun v24 =>
  optK (ldcVal h22 v24) fun v25 =>
  optK (iaVal (.slice 1) x3 (.int .i64 8)) fun v26 =>
  opt2 (sttV hp0.length v26 v25 h22 f23) fun h27 f28 =>
  d_r11_Names_l8 G K L hp0 (d_r11_Names_j9 G K L hp0 ) L x1 x3 y3 (.int .i64 0) h27 f28
theorem d_r11_Names_j7_eq (G : GT) (K : KT) (L : Nat) (hp0 : HP)   : codeK G 131 hp0.length K p_r11_Names L c_r11_Names_j7 (retK p_r11_Names a_r11_Names hp0) (retK p_r11_Names a_r11_Names hp0) [] = fun e hp ef => d_r11_Names_j7 G K L hp0  (e 1).rd (e 3).rd (e 3).val hp ef := by
  simp only [c_r11_Names_j7, codeK_seq, codeK_block, codeK_scope, codeK_cond]
  rw [d_r11_Names_j9_eq G K L hp0  , d_r11_Names_l8_eq G K L hp0 (d_r11_Names_j9 G K L hp0 )  _]
  kernel_rfl
def d_r11_Names_l6 (G : GT) (K : KT) (L : Nat) (hp0 : HP) (k6 : AV → AV → AV → HP → Eff → KR) : Nat → AV → AV → AV → AV → HP → Eff → KR
  | 0, _, _, _, _, _, _ => none
  | m + 1, x1, x3, y3, x7, hp, ef =>
    optK (faVal 4 x1) fun v49 =>
    optK (ldcVal hp v49) fun v50 =>
    optK (lenVal hp .slice v50) fun v51 =>
    optK (binVal .lss .prim x7 v51) fun v52 =>
    ifK v52
    (optK (iaVal (.slice 1) x3 (.int .i64 3)) fun v53 =>
    opt3 (ldtV hp0.length v53 hp ef) fun v54 h55 f56 =>
    optK (faVal 4 x1) fun v57 =>
    optK (ldcVal h55 v57) fun v58 =>
    optK (iaVal (.slice 3) v58 x7) fun v59 =>
    optK (faVal 0 v59) fun v60 =>
    optK (ldcVal h55 v60) fun v61 =>
    opt2 (litV ty_string 1 [v61] h55) fun v62 h63 =>
    optK (appV 1 16 v54 (AV.ro v62) h63) fun v64 =>
    optK (iaVal (.slice 1) x3 (.int .i64 3)) fun v65 =>
    opt2 (sttV hp0.length v65 v64 h63 f56) fun h66 f67 =>
    optK (binVal .add .prim x7 (.int .i64 1)) fun v68 =>
    d_r11_Names_l6 G K L hp0 k6 m x1 x3 y3 v68 h66 f67)
    (k6 x1 x3 y3 hp ef)
theorem d_r11_Names_l6_lp (G : GT) (K : KT) (L : Nat) (hp0 : HP) (k6 : AV → AV → AV → HP → Eff → KR)  : ∀ m, loopK (fun n' => codeK G 131 hp0.length K p_r11_Names L c_r11_Names_l6b n' (retK p_r11_Names a_r11_Names hp0) [(6, (fun e hp ef => k6 (e 1).rd (e 3).rd (e 3).val hp ef))]) m = fun e hp ef => d_r11_Names_l6 G K L hp0 k6 m (e 1).rd (e 3).rd (e 3).val (e 7).rd hp ef := by
  intro m
  induction m with
  | zero => rfl
  | succ m ih =>
    show codeK G 131 hp0.length K p_r11_Names L c_r11_Names_l6b (loopK _ m) (retK p_r11_Names a_r11_Names hp0) [(6, (fun e hp ef => k6 (e 1).rd (e 3).rd (e 3).val hp ef))] = _
    rw [ih]
    kernel_rfl
theorem d_r11_Names_l6_eq (G : GT) (K : KT) (L : Nat) (hp0 : HP) (k6 : AV → AV → AV → HP → Eff → KR)  (zn : Cont) : codeK G 131 hp0.length K p_r11_Names L c_r11_Names_l6 zn (retK p_r11_Names a_r11_Names hp0) [(6, (fun e hp ef => k6 (e 1).rd (e 3).rd (e 3).val hp ef))] = fun e hp ef => d_r11_Names_l6 G K L hp0 k6 L (e 1).rd (e 3).rd (e 3).val (e 7).rd hp ef := d_r11_Names_l6_lp G K L hp0 k6  L
def d_r11_Names_j5 (G : GT) (K : KT) (L : Nat) (hp0 : HP)  (x1 : AV) (x3 : AV) (y3 : AV) (hp : HP) (ef : Eff) : KR :=
  d_r11_Names_l6 G K L hp0 (d_r11_Names_j7 G K L hp0 ) L x1 x3 y3 (.int .i64 0) hp ef
theorem d_r11_Names_j5_eq (G : GT) (K : KT) (L : Nat) (hp0 : HP)   : codeK G 131 hp0.length K p_r11_Names L c_r11_Names_j5 (retK p_r11_Names a_r11_Names hp0) (retK p_r11_Names a_r11_Names hp0) [] = fun e hp ef => d_r11_Names_j5 G K L hp0  (e 1).rd (e 3).rd (e 3).val hp ef := by
  simp only [c_r11_Names_j5, codeK_seq, codeK_block, codeK_scope, codeK_cond]
  rw [d_r11_Names_j7_eq G K L hp0  , d_r11_Names_l6_eq G K L hp0 (d_r11_Names_j7 G K L hp0 )  _]
  kernel_rfl
def d_r11_Names_l4 (G : GT) (K : KT) (L : Nat) (hp0 : HP) (k4 : AV → AV → AV → HP → Eff → KR) : Nat → AV → AV → AV → AV → HP → Eff → KR
  | 0, _, _, _, _, _, _ => none
  | m + 1, x1, x3, y3, x6, hp, ef =>
    optK (faVal 3 x1) fun v69 =>
    optK (ldcVal hp v69) fun v70 =>
    optK (lenVal hp .slice v70) fun v71 =>
    optK (binVal .lss .prim x6 v71) fun v72 =>
    ifK v72
    (optK (iaVal (.slice 1) x3 (.int .i64 2)) fun v73 =>
    opt3 (ldtV hp0.length v73 hp ef) fun v74 h75 f76 =>
    optK (faVal 3 x1) fun v77 =>
    optK (ldcVal h75 v77) fun v78 =>
    optK (iaVal (.slice 3) v78 x6) fun v79 =>
    optK (faVal 0 v79) fun v80 =>
    optK (ldcVal h75 v80) fun v81 =>
    opt2 (litV ty_string 1 [v81] h75) fun v82 h83 =>
    optK (appV 1 16 v74 (AV.ro v82) h83) fun v84 =>
    optK (iaVal (.slice 1) x3 (.int .i64 2)) fun v85 =>
    opt2 (sttV hp0.length v85 v84 h83 f76) fun h86 f87 =>
    optK (binVal .add .prim x6 (.int .i64 1)) fun v88 =>
    d_r11_Names_l4 G K L hp0 k4 m x1 x3 y3 v88 h86 f87)
    (k4 x1 x3 y3 hp ef)
theorem d_r11_Names_l4_lp (G : GT) (K : KT) (L : Nat) (hp0 : HP) (k4 : AV → AV → AV → HP → Eff → KR)  : ∀ m, loopK (fun n' => codeK G 131 hp0.length K p_r11_Names L c_r11_Names_l4b n' (retK p_r11_Names a_r11_Names hp0) [(4, (fun e hp ef => k4 (e 1).rd (e 3).rd (e 3).val hp ef))]) m = fun e hp ef => d_r11_Names_l4 G K L hp0 k4 m (e 1).rd (e 3).rd (e 3).val (e 6).rd hp ef := by
  intro m
  induction m with
  | zero => rfl
  | succ m ih =>
    show codeK G 131 hp0.length K p_r11_Names L c_r11_Names_l4b (loopK _ m) (retK p_r11_Names a_r11_Names hp0) [(4, (fun e hp ef => k4 (e 1).rd (e 3).rd (e 3).val hp ef))] = _
    rw [ih]
    kernel_rfl
theorem d_r11_Names_l4_eq (G : GT) (K : KT) (L : Nat) (hp0 : HP) (k4 : AV → AV → AV → HP → Eff → KR)  (zn : Cont) : codeK G 131 hp0.length K p_r11_Names L c_r11_Names_l4 zn (retK p_r11_Names a_r11_Names hp0) [(4, (fun e hp ef => k4 (e 1).rd (e 3).rd (e 3).val hp ef))] = fun e hp ef => d_r11_Names_l4 G K L hp0 k4 L (e 1).rd (e 3).rd (e 3).val (e 6).rd hp ef := d_r11_Names_l4_lp G K L hp0 k4  L
def d_r11_Names_j3 (G : GT) (K : KT) (L : Nat) (hp0 : HP)  (x1 : AV) (x3 : AV) (y3 : AV) (hp : HP) (ef : Eff) : KR :=
  d_r11_Names_l4 G K L hp0 (d_r11_Names_j5 G K L hp0 ) L x1 x3 y3 (.int .i64 0) hp ef
theorem d_r11_Names_j3_eq (G : GT) (K : KT) (L : Nat) (hp0 : HP)   : codeK G 131 hp0.length K p_r11_Names L c_r11_Names_j3 (retK p_r11_Names a_r11_Names hp0) (retK p_r11_Names a_r11_Names hp0) [] = fun e hp ef => d_r11_Names_j3 G K L hp0  (e 1).rd (e 3).rd (e 3).val hp ef := by
  simp only [c_r11_Names_j3, codeK_seq, codeK_block, codeK_scope, codeK_cond]
  rw [d_r11_Names_j5_eq G K L hp0  , d_r11_Names_l4_eq G K L hp0 (d_r11_Names_j5 G K L hp0 )  _]
  kernel_rfl
def d_r11_Names_l2 (G : GT) (K : KT) (L : Nat) (hp0 : HP) (k2 : AV → AV → AV → HP → Eff → KR) : Nat → AV → AV → AV → AV → HP → Eff → KR
  | 0, _, _, _, _, _, _ => none
  | m + 1, x1, x3, y3, x5, hp, ef =>
    optK (faVal 2 x1) fun v89 =>
    optK (ldcVal hp v89) fun v90 =>
    optK (lenVal hp .slice v90) fun v91 =>
    optK (binVal .lss .prim x5 v91) fun v92 =>
    ifK v92
    (optK (iaVal (.slice 1) x3 (.int .i64 1)) fun v93 =>
    opt3 (ldtV hp0.length v93 hp ef) fun v94 h95 f96 =>
    optK (faVal 2 x1) fun v97 =>
    optK (ldcVal h95 v97) fun v98 =>
    optK (iaVal (.slice 17) v98 x5) fun v99 =>
    optK (faVal 0 v99) fun v100 =>
    optK (ldcVal h95 v100) fun v101 =>
    opt2 (litV ty_string 1 [v101] h95) fun v102 h103 =>
    optK (appV 1 16 v94 (AV.ro v102) h103) fun v104 =>
    optK (iaVal (.slice 1) x3 (.int .i64 1)) fun v105 =>
    opt2 (sttV hp0.length v105 v104 h103 f96) fun h106 f107 =>
    optK (binVal .add .prim x5 (.int .i64 1)) fun v108 =>
    d_r11_Names_l2 G K L hp0 k2 m x1 x3 y3 v108 h106 f107)
    (k2 x1 x3 y3 hp ef)
theorem d_r11_Names_l2_lp (G : GT) (K : KT) (L : Nat) (hp0 : HP) (k2 : AV → AV → AV → HP → Eff → KR)  : ∀ m, loopK (fun n' => codeK G 131 hp0.length K p_r11_Names L c_r11_Names_l2b n' (retK p_r11_Names a_r11_Names hp0) [(2, (fun e hp ef => k2 (e 1).rd (e 3).rd (e 3).val hp ef))]) m = fun e hp ef => d_r11_Names_l2 G K L hp0 k2 m (e 1).rd (e 3).rd (e 3).val (e 5).rd hp ef := by
  intro m
  induction m with
  | zero => rfl
  | succ m ih =>
    show codeK G 131 hp0.length K p_r11_Names L c_r11_Names_l2b (loopK _ m) (retK p_r11_Names a_r11_Names hp0) [(2, (fun e hp ef => k2 (e 1).rd (e 3).rd (e 3).val hp ef))] = _
    rw [ih]
    kernel_rfl
theorem d_r11_Names_l2_eq (G : GT) (K : KT) (L : Nat) (hp0 : HP) (k2 : AV → AV → AV → HP → Eff → KR)  (zn : Cont) : codeK G 131 hp0.length K p_r11_Names L c_r11_Names_l2 zn (retK p_r11_Names a_r11_Names hp0) [(2, (fun e hp ef => k2 (e 1).rd (e 3).rd (e 3).val hp ef))] = fun e hp ef => d_r11_Names_l2 G K L hp0 k2 L (e 1).rd (e 3).rd (e 3).val (e 5).rd hp ef := d_r11_Names_l2_lp G K L hp0 k2  L
def d_r11_Names_j1 (G : GT) (K : KT) (L : Nat) (hp0 : HP)  (x1 : AV) (x3 : AV) (y3 : AV) (hp : HP) (ef : Eff) : KR :=
  d_r11_Names_l2 G K L hp0 (d_r11_Names_j3 G K L hp0 ) L x1 x3 y3 (.int .i64 0) hp ef
theorem d_r11_Names_j1_eq (G : GT) (K : KT) (L : Nat) (hp0 : HP)   : codeK G 131 hp0.length K p_r11_Names L c_r11_Names_j1 (retK p_r11_Names a_r11_Names hp0) (retK p_r11_Names a_r11_Names hp0) [] = fun e hp ef => d_r11_Names_j1 G K L hp0  (e 1).rd (e 3).rd (e 3).val hp ef := by
  simp only [c_r11_Names_j1, codeK_seq, codeK_block, codeK_scope, codeK_cond]
  rw [d_r11_Names_j3_eq G K L hp0  , d_r11_Names_l2_eq G K L hp0 (d_r11_Names_j3 G K L hp0 )  _]
  kernel_rfl
def d_r11_Names_l0 (G : GT) (K : KT) (L : Nat) (hp0 : HP) (k0 : AV → AV → AV → HP → Eff → KR) : Nat → AV → AV → AV → AV → HP → Eff → KR
  | 0, _, _, _, _, _, _ => none
  | m + 1, x1, x3, y3, x4, hp, ef =>
    optK (faVal 1 x1) fun v109 =>
    optK (ldcVal hp v109) fun v110 =>
    optK (lenVal hp .slice v110) fun v111 =>
    optK (binVal .lss .prim x4 v111) fun v112 =>
    ifK v112
    (optK (iaVal (.slice 1) x3 (.int .i64 0)) fun v113 =>
    opt3 (ldtV hp0.length v113 hp ef) fun v114 h115 f116 =>
    optK (faVal 1 x1) fun v117 =>
    optK (ldcVal h115 v117) fun v118 =>
    optK (iaVal (.slice 3) v118 x4) fun v119 =>
    optK (faVal 0 v119) fun v120 =>
    optK (ldcVal h115 v120) fun v121 =>
    opt2 (litV ty_string 1 [v121] h115) fun v122 h123 =>
    optK (appV 1 16 v114 (AV.ro v122) h123) fun v124 =>
    optK (iaVal (.slice 1) x3 (.int .i64 0)) fun v125 =>
    opt2 (sttV hp0.length v125 v124 h123 f116) fun h126 f127 =>
    optK (binVal .add .prim x4 (.int .i64 1)) fun v128 =>
    d_r11_Names_l0 G K L hp0 k0 m x1 x3 y3 v128 h126 f127)
    (k0 x1 x3 y3 hp ef)
theorem d_r11_Names_l0_lp (G : GT) (K : KT) (L : Nat) (hp0 : HP) (k0 : AV → AV → AV → HP → Eff → KR)  : ∀ m, loopK (fun n' => codeK G 131 hp0.length K p_r11_Names L c_r11_Names_l0b n' (retK p_r11_Names a_r11_Names hp0) [(0, (fun e hp ef => k0 (e 1).rd (e 3).rd (e 3).val hp ef))]) m = fun e hp ef => d_r11_Names_l0 G K L hp0 k0 m (e 1).rd (e 3).rd (e 3).val (e 4).rd hp ef := by
  intro m
  induction m with
  | zero => rfl
  | succ m ih =>
    show codeK G 131 hp0.length K p_r11_Names L c_r11_Names_l0b (loopK _ m) (retK p_r11_Names a_r11_Names hp0) [(0, (fun e hp ef => k0 (e 1).rd (e 3).rd (e 3).val hp ef))] = _
    rw [ih]
    kernel_rfl
theorem d_r11_Names_l0_eq (G : GT) (K : KT) (L : Nat) (hp0 : HP) (k0 : AV → AV → AV → HP → Eff → KR)  (zn : Cont) : codeK G 131 hp0.length K p_r11_Names L c_r11_Names_l0 zn (retK p_r11_Names a_r11_Names hp0) [(0, (fun e hp ef => k0 (e 1).rd (e 3).rd (e 3).val hp ef))] = fun e hp ef => d_r11_Names_l0 G K L hp0 k0 L (e 1).rd (e 3).rd (e 3).val (e 4).rd hp ef := d_r11_Names_l0_lp G K L hp0 k0  L
def d_r11_Names (G : GT) (K : KT) (L : Nat) (x0 : AV) (hp0 : HP) : KR :=
  optK (boxV 13 (AV.ro x0)) fun v1 =>
  letK (hp0 ++ [.cells v1 ty_api_SiteDecl]) fun h0 =>
  opt2 (mkslV ty_Lstring [(.own 1 [])] (.int .i64 10) h0) fun v2 h3 =>
  d_r11_Names_l0 G K L hp0 (d_r11_Names_j1 G K L hp0 ) L (.ptr (hp0).length 0) v2 v2 (.int .i64 0) h3 none
theorem d_r11_Names_eq (G : GT) (K : KT) (L : Nat) (x0 : AV) (hp0 : HP) : fnK G K p_r11_Names L a_r11_Names [x0] hp0 = d_r11_Names G K L x0 hp0 := by
  show codeK G 131 hp0.length K p_r11_Names L c_r11_Names (retK p_r11_Names a_r11_Names hp0) (retK p_r11_Names a_r11_Names hp0) [] (argE [x0]) hp0 none = _
  simp only [c_r11_Names, codeK_seq, codeK_block, codeK_scope, codeK_cond]
  rw [d_r11_Names_j1_eq G K L hp0  , d_r11_Names_l0_eq G K L hp0 (d_r11_Names_j1 G K L hp0 )  _]
  kernel_rfl
theorem r11_Names_run {C : Cfg} (h : C.T F_r11_Names = some a_r11_Names) {n : Nat} {x0 : AV} {hp : HP} {r : AV × HP × Eff} (hr : d_r11_Names C.G (evalCall C n) C.L x0 hp = some r) : evalCall C (n + 1) F_r11_Names [x0] hp = some r := fnK_ok h (Nat.le_of_ble_eq_true rfl) ((d_r11_Names_eq ..).trans hr)
def d_model_Link_1 (G : GT) (K : KT) (L : Nat) (x0 x1 x2 : AV) (hp0 : HP) : KR :=
  optK (boxV 3 (AV.ro x0)) fun v1 =>
  letK (hp0 ++ [.cells v1 ty_api_Link]) fun h0 =>
  optK (faVal 0 (.ptr (hp0).length 0)) fun v2 =>
  optK (ldcVal h0 v2) fun v3 =>
  optK (ldcVal h0 (AV.ro x1)) fun v4 =>
  optK (binVal .eql .prim v3 v4) fun v5 =>
  grpK v5 true
  (optK (faVal 1 (.ptr (hp0).length 0)) fun v6 =>
  optK (ldcVal h0 v6) fun v7 =>
  optK (ldcVal h0 (AV.ro x2)) fun v8 =>
  optK (binVal .eql .prim v7 v8) fun v9 =>
  some (v9, h0, none))
  (some (.bool false)) h0 none fun v10 h11 f12 =>
  some (finK false hp0 v10 h11 f12)
theorem d_model_Link_1_eq (G : GT) (K : KT) (L : Nat) (x0 x1 x2 : AV) (hp0 : HP) : fnK G K p_model_Link_1 L a_model_Link_1 [x0, x1, x2] hp0 = d_model_Link_1 G K L x0 x1 x2 hp0 := by
  kernel_rfl
theorem model_Link_1_run {C : Cfg} (h : C.T F_model_Link_1 = some a_model_Link_1) {n : Nat} {x0 x1 x2 : AV} {hp : HP} {r : AV × HP × Eff} (hr : d_model_Link_1 C.G (evalCall C n) C.L x0 x1 x2 hp = some r) : evalCall C (n + 1) F_model_Link_1 [x0, x1, x2] hp = some r := fnK_ok h (Nat.le_of_ble_eq_true rfl) ((d_model_Link_1_eq ..).trans hr)
def d_slices_IndexFunc_Lapi_Link_api_Link__j1 (G : GT) (K : KT) (L : Nat) (hp0 : HP)   (hp : HP) (ef : Eff) : KR :=
  some (finK false hp0 (.int .i64 (-1)) hp ef)
theorem d_slices_IndexFunc_Lapi_Link_api_Link__j1_eq (G : GT) (K : KT) (L : Nat) (hp0 : HP)   : codeK G 19 hp0.length K p_slices_IndexFunc_Lapi_Link_api_Link_ L c_slices_IndexFunc_Lapi_Link_api_Link__j1 (retK p_slices_IndexFunc_Lapi_Link_api_Link_ a_slices_IndexFunc_Lapi_Link_api_Link_ hp0) (retK p_slices_IndexFunc_Lapi_Link_api_Link_ a_slices_IndexFunc_Lapi_Link_api_Link_ hp0) [] = fun e hp ef => d_slices_IndexFunc_Lapi_Link_api_Link__j1 G K L hp0   hp ef := by
  kernel_rfl
def d_slices_IndexFunc_Lapi_Link_api_Link__l0 (G : GT) (K : KT) (L : Nat) (hp0 : HP) (k0 : HP → Eff → KR) : Nat → AV → AV → AV → AV → HP → Eff → KR
  | 0, _, _, _, _, _, _ => none
  | m + 1, x0, x1, x7, x8, hp, ef =>
    optK (binVal .lss .prim x8 x7) fun v1 =>
    ifK v1
    (optK (iaVal (.slice 3) x0 x8) fun v2 =>
    optK (ldaVal hp 3 v2) fun v3 =>
    opt3 (callV K x1 [v3] hp) fun v4 h5 f6 =>
    ifK (AV.ro v4)
    (some (finK false hp0 x8 h5 (afterK hp0.length ef f6)))
    (optK (binVal .add .prim x8 (.int .i64 1)) fun v7 =>
    d_slices_IndexFunc_Lapi_Link_api_Link__l0 G K L hp0 k0 m x0 x1 x7 v7 h5 (afterK hp0.length ef f6)))
    (k0  hp ef)
theorem d_slices_IndexFunc_Lapi_Link_api_Link__l0_lp (G : GT) (K : KT) (L : Nat) (hp0 : HP) (k0 : HP → Eff → KR)  : ∀ m, loopK (fun n' => codeK G 19 hp0.length K p_slices_IndexFunc_Lapi_Link_api_Link_ L c_slices_IndexFunc_Lapi_Link_api_Link__l0b n' (retK p_slices_IndexFunc_Lapi_Link_api_Link_ a_slices_IndexFunc_Lapi_Link_api_Link_ hp0) [(0, (fun e hp ef => k0  hp ef))]) m = fun e hp ef => d_slices_IndexFunc_Lapi_Link_api_Link__l0 G K L hp0 k0 m (e 0).rd (e 1).rd (e 7).rd (e 8).rd hp ef := by
  intro m
  induction m with
  | zero => rfl
  | succ m ih =>
    show codeK G 19 hp0.length K p_slices_IndexFunc_Lapi_Link_api_Link_ L c_slices_IndexFunc_Lapi_Link_api_Link__l0b (loopK _ m) (retK p_slices_IndexFunc_Lapi_Link_api_Link_ a_slices_IndexFunc_Lapi_Link_api_Link_ hp0) [(0, (fun e hp ef => k0  hp ef))] = _
    rw [ih]
    kernel_rfl
theorem d_slices_IndexFunc_Lapi_Link_api_Link__l0_eq (G : GT) (K : KT) (L : Nat) (hp0 : HP) (k0 : HP → Eff → KR)  (zn : Cont) : codeK G 19 hp0.length K p_slices_IndexFunc_Lapi_Link_api_Link_ L c_slices_IndexFunc_Lapi_Link_api_Link__l0 zn (retK p_slices_IndexFunc_Lapi_Link_api_Link_ a_slices_IndexFunc_Lapi_Link_api_Link_ hp0) [(0, (fun e hp ef => k0  hp ef))] = fun e hp ef => d_slices_IndexFunc_Lapi_Link_api_Link__l0 G K L hp0 k0 L (e 0).rd (e 1).rd (e 7).rd (e 8).rd hp ef := d_slices_IndexFunc_Lapi_Link_api_Link__l0_lp G K L hp0 k0  L
def d_slices_IndexFunc_Lapi_Link_api_Link_ (G : GT) (K : KT) (L : Nat) (x0 x1 : AV) (hp0 : HP) : KR :=
  optK (lenVal hp0 .slice (AV.ro x0)) fun v0 =>
  d_slices_IndexFunc_Lapi_Link_api_Link__l0 G K L hp0 (d_slices_IndexFunc_Lapi_Link_api_Link__j1 G K L hp0 ) L (AV.ro x0) (AV.ro x1) v0 (.int .i64 0) hp0 none
theorem d_slices_IndexFunc_Lapi_Link_api_Link__eq (G : GT) (K : KT) (L : Nat) (x0 x1 : AV) (hp0 : HP) : fnK G K p_slices_IndexFunc_Lapi_Link_api_Link_ L a_slices_IndexFunc_Lapi_Link_api_Link_ [x0, x1] hp0 = d_slices_IndexFunc_Lapi_Link_api_Link_ G K L x0 x1 hp0 := by
  show codeK G 19 hp0.length K p_slices_IndexFunc_Lapi_Link_api_Link_ L c_slices_IndexFunc_Lapi_Link_api_Link_ (retK p_slices_IndexFunc_Lapi_Link_api_Link_ a_slices_IndexFunc_Lapi_Link_api_Link_ hp0) (retK p_slices_IndexFunc_Lapi_Link_api_Link_ a_slices_IndexFunc_Lapi_Link_api_Link_ hp0) [] (argE [x0, x1]) hp0 none = _
  simp only [c_slices_IndexFunc_Lapi_Link_api_Link_, codeK_seq, codeK_block, codeK_scope, codeK_cond]
  rw [d_slices_IndexFunc_Lapi_Link_api_Link__j1_eq G K L hp0  , d_slices_IndexFunc_Lapi_Link_api_Link__l0_eq G K L hp0 (d_slices_IndexFunc_Lapi_Link_api_Link__j1 G K L hp0 )  _]
  kernel_rfl
theorem slices_IndexFunc_Lapi_Link_api_Link__run {C : Cfg} (h : C.T F_slices_IndexFunc_Lapi_Link_api_Link_ = some a_slices_IndexFunc_Lapi_Link_api_Link_) {n : Nat} {x0 x1 : AV} {hp : HP} {r : AV × HP × Eff} (hr : d_slices_IndexFunc_Lapi_Link_api_Link_ C.G (evalCall C n) C.L x0 x1 hp = some r) : evalCall C (n + 1) F_slices_IndexFunc_Lapi_Link_api_Link_ [x0, x1] hp = some r := fnK_ok h (Nat.le_of_ble_eq_true rfl) ((d_slices_IndexFunc_Lapi_Link_api_Link__eq ..).trans hr)
def d_model_Site_1 (G : GT) (K : KT) (L : Nat) (x0 x1 : AV) (hp0 : HP) : KR :=
  optK (boxV 13 (AV.ro x0)) fun v1 =>
  letK (hp0 ++ [.cells v1 ty_api_SiteDecl]) fun h0 =>
  optK (faVal 0 (.ptr (hp0).length 0)) fun v2 =>
  optK (ldcVal h0 v2) fun v3 =>
  optK (ldcVal h0 (AV.ro x1)) fun v4 =>
  optK (binVal .eql .prim v3 v4) fun v5 =>
  some (finK false hp0 v5 h0 none)
theorem d_model_Site_1_eq (G : GT) (K : KT) (L : Nat) (x0 x1 : AV) (hp0 : HP) : fnK G K p_model_Site_1 L a_model_Site_1 [x0, x1] hp0 = d_model_Site_1 G K L x0 x1 hp0 := by
  kernel_rfl
theorem model_Site_1_run {C : Cfg} (h : C.T F_model_Site_1 = some a_model_Site_1) {n : Nat} {x0 x1 : AV} {hp : HP} {r : AV × HP × Eff} (hr : d_model_Site_1 C.G (evalCall C n) C.L x0 x1 hp = some r) : evalCall C (n + 1) F_model_Site_1 [x0, x1] hp = some r := fnK_ok h (Nat.le_of_ble_eq_true rfl) ((d_model_Site_1_eq ..).trans hr)
def d_slices_IndexFunc_Lapi_SiteDecl_api_SiteDecl__j1 (G : GT) (K : KT) (L : Nat) (hp0 : HP)   (hp : HP) (ef : Eff) : KR :=
  some (finK false hp0 (.int .i64 (-1)) hp ef)
theorem d_slices_IndexFunc_Lapi_SiteDecl_api_SiteDecl__j1_eq (G : GT) (K : KT) (L : Nat) (hp0 : HP)   : codeK G 19 hp0.length K p_slices_IndexFunc_Lapi_SiteDecl_api_SiteDecl_ L c_slices_IndexFunc_Lapi_SiteDecl_api_SiteDecl__j1 (retK p_slices_IndexFunc_Lapi_SiteDecl_api_SiteDecl_ a_slices_IndexFunc_Lapi_SiteDecl_api_SiteDecl_ hp0) (retK p_slices_IndexFunc_Lapi_SiteDecl_api_SiteDecl_ a_slices_IndexFunc_Lapi_SiteDecl_api_SiteDecl_ hp0) [] = fun e hp ef => d_slices_IndexFunc_Lapi_SiteDecl_api_SiteDecl__j1 G K L hp0   hp ef := by
  kernel_rfl
def d_slices_IndexFunc_Lapi_SiteDecl_api_SiteDecl__l0 (G : GT) (K : KT) (L : Nat) (hp0 : HP) (k0 : HP → Eff → KR) : Nat → AV → AV → AV → AV → HP → Eff → KR
  | 0, _, _, _, _, _, _ => none
  | m + 1, x0, x1, x7, x8, hp, ef =>
    optK (binVal .lss .prim x8 x7) fun v1 =>
    ifK v1
    (optK (iaVal (.slice 13) x0 x8) fun v2 =>
    optK (ldaVal hp 13 v2) fun v3 =>
    opt3 (callV K x1 [v3] hp) fun v4 h5 f6 =>
    ifK (AV.ro v4)
    (some (finK false hp0 x8 h5 (afterK hp0.length ef f6)))
    (optK (binVal .add .prim x8 (.int .i64 1)) fun v7 =>
    d_slices_IndexFunc_Lapi_SiteDecl_api_SiteDecl__l0 G K L hp0 k0 m x0 x1 x7 v7 h5 (afterK hp0.length ef f6)))
    (k0  hp ef)
theorem d_slices_IndexFunc_Lapi_SiteDecl_api_SiteDecl__l0_lp (G : GT) (K : KT) (L : Nat) (hp0 : HP) (k0 : HP → Eff → KR)  : ∀ m, loopK (fun n' => codeK G 19 hp0.length K p_slices_IndexFunc_Lapi_SiteDecl_api_SiteDecl_ L c_slices_IndexFunc_Lapi_SiteDecl_api_SiteDecl__l0b n' (retK p_slices_IndexFunc_Lapi_SiteDecl_api_SiteDecl_ a_slices_IndexFunc_Lapi_SiteDecl_api_SiteDecl_ hp0) [(0, (fun e hp ef => k0  hp ef))]) m = fun e hp ef => d_slices_IndexFunc_Lapi_SiteDecl_api_SiteDecl__l0 G K L hp0 k0 m (e 0).rd (e 1).rd (e 7).rd (e 8).rd hp ef := by
  intro m
  induction m with
  | zero => rfl
  | succ m ih =>
    show codeK G 19 hp0.length K p_slices_IndexFunc_Lapi_SiteDecl_api_SiteDecl_ L c_slices_IndexFunc_Lapi_SiteDecl_api_SiteDecl__l0b (loopK _ m) (retK p_slices_IndexFunc_Lapi_SiteDecl_api_SiteDecl_ a_slices_IndexFunc_Lapi_SiteDecl_api_SiteDecl_ hp0) [(0, (fun e hp ef => k0  hp ef))] = _
    rw [ih]
    kernel_rfl
theorem d_slices_IndexFunc_Lapi_SiteDecl_api_SiteDecl__l0_eq (G : GT) (K : KT) (L : Nat) (hp0 : HP) (k0 : HP → Eff → KR)  (zn : Cont) : codeK G 19 hp0.length K p_slices_IndexFunc_Lapi_SiteDecl_api_SiteDecl_ L c_slices_IndexFunc_Lapi_SiteDecl_api_SiteDecl__l0 zn (retK p_slices_IndexFunc_Lapi_SiteDecl_api_SiteDecl_ a_slices_IndexFunc_Lapi_SiteDecl_api_SiteDecl_ hp0) [(0, (fun e hp ef => k0  hp ef))] = fun e hp ef => d_slices_IndexFunc_Lapi_SiteDecl_api_SiteDecl__l0 G K L hp0 k0 L (e 0).rd (e 1).rd (e 7).rd (e 8).rd hp ef := d_slices_IndexFunc_Lapi_SiteDecl_api_SiteDecl__l0_lp G K L hp0 k0  L
def d_slices_IndexFunc_Lapi_SiteDecl_api_SiteDecl_ (G : GT) (K : KT) (L : Nat) (x0 x1 : AV) (hp0 : HP) : KR :=
  optK (lenVal hp0 .slice (AV.ro x0)) fun v0 =>
  d_slices_IndexFunc_Lapi_SiteDecl_api_SiteDecl__l0 G K L hp0 (d_slices_IndexFunc_Lapi_SiteDecl_api_SiteDecl__j1 G K L hp0 ) L (AV.ro x0) (AV.ro x1) v0 (.int .i64 0) hp0 none
theorem d_slices_IndexFunc_Lapi_SiteDecl_api_SiteDecl__eq (G : GT) (K : KT) (L : Nat) (x0 x1 : AV) (hp0 : HP) : fnK G K p_slices_IndexFunc_Lapi_SiteDecl_api_SiteDecl_ L a_slices_IndexFunc_Lapi_SiteDecl_api_SiteDecl_ [x0, x1] hp0 = d_slices_IndexFunc_Lapi_SiteDecl_api_SiteDecl_ G K L x0 x1 hp0 := by
  show codeK G 19 hp0.length K p_slices_IndexFunc_Lapi_SiteDecl_api_SiteDecl_ L c_slices_IndexFunc_Lapi_SiteDecl_api_SiteDecl_ (retK p_slices_IndexFunc_Lapi_SiteDecl_api_SiteDecl_ a_slices_IndexFunc_Lapi_SiteDecl_api_SiteDecl_ hp0) (retK p_slices_IndexFunc_Lapi_SiteDecl_api_SiteDecl_ a_slices_IndexFunc_Lapi_SiteDecl_api_SiteDecl_ hp0) [] (argE [x0, x1]) hp0 none = _
  simp only [c_slices_IndexFunc_Lapi_SiteDecl_api_SiteDecl_, codeK_seq, codeK_block, codeK_scope, codeK_cond]
  rw [d_slices_IndexFunc_Lapi_SiteDecl_api_SiteDecl__j1_eq G K L hp0  , d_slices_IndexFunc_Lapi_SiteDecl_api_SiteDecl__l0_eq G K L hp0 (d_slices_IndexFunc_Lapi_SiteDecl_api_SiteDecl__j1 G K L hp0 )  _]
  kernel_rfl
theorem slices_IndexFunc_Lapi_SiteDecl_api_SiteDecl__run {C : Cfg} (h : C.T F_slices_IndexFunc_Lapi_SiteDecl_api_SiteDecl_ = some a_slices_IndexFunc_Lapi_SiteDecl_api_SiteDecl_) {n : Nat} {x0 x1 : AV} {hp : HP} {r : AV × HP × Eff} (hr : d_slices_IndexFunc_Lapi_SiteDecl_api_SiteDecl_ C.G (evalCall C n) C.L x0 x1 hp = some r) : evalCall C (n + 1) F_slices_IndexFunc_Lapi_SiteDecl_api_SiteDecl_ [x0, x1] hp = some r := fnK_ok h (Nat.le_of_ble_eq_true rfl) ((d_slices_IndexFunc_Lapi_SiteDecl_api_SiteDecl__eq ..).trans hr)
def d_model_Routine_1 (G : GT) (K : KT) (L : Nat) (x0 x1 : AV) (hp0 : HP) : KR :=
  optK (boxV 4 (AV.ro x0)) fun v1 =>
  letK (hp0 ++ [.cells v1 ty_api_Routine]) fun h0 =>
  optK (faVal 0 (.ptr (hp0).length 0)) fun v2 =>
  optK (ldcVal h0 v2) fun v3 =>
  optK (ldcVal h0 (AV.ro x1)) fun v4 =>
  optK (binVal .eql .prim v3 v4) fun v5 =>
  some (finK false hp0 v5 h0 none)
theorem d_model_Routine_1_eq (G : GT) (K : KT) (L : Nat) (x0 x1 : AV) (hp0 : HP) : fnK G K p_model_Routine_1 L a_model_Routine_1 [x0, x1] hp0 = d_model_Routine_1 G K L x0 x1 hp0 := by
  kernel_rfl
theorem model_Routine_1_run {C : Cfg} (h : C.T F_model_Routine_1 = some a_model_Routine_1) {n : Nat} {x0 x1 : AV} {hp : HP} {r : AV × HP × Eff} (hr : d_model_Routine_1 C.G (evalCall C n) C.L x0 x1 hp = some r) : evalCall C (n + 1) F_model_Routine_1 [x0, x1] hp = some r := fnK_ok h (Nat.le_of_ble_eq_true rfl) ((d_model_Routine_1_eq ..).trans hr)
def d_slices_IndexFunc_Lapi_Routine_api_Routine__j1 (G : GT) (K : KT) (L : Nat) (hp0 : HP)   (hp : HP) (ef : Eff) : KR :=
  some (finK false hp0 (.int .i64 (-1)) hp ef)
theorem d_slices_IndexFunc_Lapi_Routine_api_Routine__j1_eq (G : GT) (K : KT) (L : Nat) (hp0 : HP)   : codeK G 19 hp0.length K p_slices_IndexFunc_Lapi_Routine_api_Routine_ L c_slices_IndexFunc_Lapi_Routine_api_Routine__j1 (retK p_slices_IndexFunc_Lapi_Routine_api_Routine_ a_slices_IndexFunc_Lapi_Routine_api_Routine_ hp0) (retK p_slices_IndexFunc_Lapi_Routine_api_Routine_ a_slices_IndexFunc_Lapi_Routine_api_Routine_ hp0) [] = fun e hp ef => d_slices_IndexFunc_Lapi_Routine_api_Routine__j1 G K L hp0   hp ef := by
  kernel_rfl
def d_slices_IndexFunc_Lapi_Routine_api_Routine__l0 (G : GT) (K : KT) (L : Nat) (hp0 : HP) (k0 : HP → Eff → KR) : Nat → AV → AV → AV → AV → HP → Eff → KR
  | 0, _, _, _, _, _, _ => none
  | m + 1, x0, x1, x7, x8, hp, ef =>
    optK (binVal .lss .prim x8 x7) fun v1 =>
    ifK v1
    (optK (iaVal (.slice 4) x0 x8) fun v2 =>
    optK (ldaVal hp 4 v2) fun v3 =>
    opt3 (callV K x1 [v3] hp) fun v4 h5 f6 =>
    ifK (AV.ro v4)
    (some (finK false hp0 x8 h5 (afterK hp0.length ef f6)))
    (optK (binVal .add .prim x8 (.int .i64 1)) fun v7 =>
    d_slices_IndexFunc_Lapi_Routine_api_Routine__l0 G K L hp0 k0 m x0 x1 x7 v7 h5 (afterK hp0.length ef f6)))
    (k0  hp ef)
theorem d_slices_IndexFunc_Lapi_Routine_api_Routine__l0_lp (G : GT) (K : KT) (L : Nat) (hp0 : HP) (k0 : HP → Eff → KR)  : ∀ m, loopK (fun n' => codeK G 19 hp0.length K p_slices_IndexFunc_Lapi_Routine_api_Routine_ L c_slices_IndexFunc_Lapi_Routine_api_Routine__l0b n' (retK p_slices_IndexFunc_Lapi_Routine_api_Routine_ a_slices_IndexFunc_Lapi_Routine_api_Routine_ hp0) [(0, (fun e hp ef => k0  hp ef))]) m = fun e hp ef => d_slices_IndexFunc_Lapi_Routine_api_Routine__l0 G K L hp0 k0 m (e 0).rd (e 1).rd (e 7).rd (e 8).rd hp ef := by
  intro m
  induction m with
  | zero => rfl
  | succ m ih =>
    show codeK G 19 hp0.length K p_slices_IndexFunc_Lapi_Routine_api_Routine_ L c_slices_IndexFunc_Lapi_Routine_api_Routine__l0b (loopK _ m) (retK p_slices_IndexFunc_Lapi_Routine_api_Routine_ a_slices_IndexFunc_Lapi_Routine_api_Routine_ hp0) [(0, (fun e hp ef => k0  hp ef))] = _
    rw [ih]
    kernel_rfl
theorem d_slices_IndexFunc_Lapi_Routine_api_Routine__l0_eq (G : GT) (K : KT) (L : Nat) (hp0 : HP) (k0 : HP → Eff → KR)  (zn : Cont) : codeK G 19 hp0.length K p_slices_IndexFunc_Lapi_Routine_api_Routine_ L c_slices_IndexFunc_Lapi_Routine_api_Routine__l0 zn (retK p_slices_IndexFunc_Lapi_Routine_api_Routine_ a_slices_IndexFunc_Lapi_Routine_api_Routine_ hp0) [(0, (fun e hp ef => k0  hp ef))] = fun e hp ef => d_slices_IndexFunc_Lapi_Routine_api_Routine__l0 G K L hp0 k0 L (e 0).rd (e 1).rd (e 7).rd (e 8).rd hp ef := d_slices_IndexFunc_Lapi_Routine_api_Routine__l0_lp G K L hp0 k0  L
def d_slices_IndexFunc_Lapi_Routine_api_Routine_ (G : GT) (K : KT) (L : Nat) (x0 x1 : AV) (hp0 : HP) : KR :=
  optK (lenVal hp0 .slice (AV.ro x0)) fun v0 =>
  d_slices_IndexFunc_Lapi_Routine_api_Routine__l0 G K L hp0 (d_slices_IndexFunc_Lapi_Routine_api_Routine__j1 G K L hp0 ) L (AV.ro x0) (AV.ro x1) v0 (.int .i64 0) hp0 none
theorem d_slices_IndexFunc_Lapi_Routine_api_Routine__eq (G : GT) (K : KT) (L : Nat) (x0 x1 : AV) (hp0 : HP) : fnK G K p_slices_IndexFunc_Lapi_Routine_api_Routine_ L a_slices_IndexFunc_Lapi_Routine_api_Routine_ [x0, x1] hp0 = d_slices_IndexFunc_Lapi_Routine_api_Routine_ G K L x0 x1 hp0 := by
  show codeK G 19 hp0.length K p_slices_IndexFunc_Lapi_Routine_api_Routine_ L c_slices_IndexFunc_Lapi_Routine_api_Routine_ (retK p_slices_IndexFunc_Lapi_Routine_api_Routine_ a_slices_IndexFunc_Lapi_Routine_api_Routine_ hp0) (retK p_slices_IndexFunc_Lapi_Routine_api_Routine_ a_slices_IndexFunc_Lapi_Routine_api_Routine_ hp0) [] (argE [x0, x1]) hp0 none = _
  simp only [c_slices_IndexFunc_Lapi_Routine_api_Routine_, codeK_seq, codeK_block, codeK_scope, codeK_cond]
  rw [d_slices_IndexFunc_Lapi_Routine_api_Routine__j1_eq G K L hp0  , d_slices_IndexFunc_Lapi_Routine_api_Routine__l0_eq G K L hp0 (d_slices_IndexFunc_Lapi_Routine_api_Routine__j1 G K L hp0 )  _]
  kernel_rfl
theorem slices_IndexFunc_Lapi_Routine_api_Routine__run {C : Cfg} (h : C.T F_slices_IndexFunc_Lapi_Routine_api_Routine_ = some a_slices_IndexFunc_Lapi_Routine_api_Routine_) {n : Nat} {x0 x1 : AV} {hp : HP} {r : AV × HP × Eff} (hr : d_slices_IndexFunc_Lapi_Routine_api_Routine_ C.G (evalCall C n) C.L x0 x1 hp = some r) : evalCall C (n + 1) F_slices_IndexFunc_Lapi_Routine_api_Routine_ [x0, x1] hp = some r := fnK_ok h (Nat.le_of_ble_eq_true rfl) ((d_slices_IndexFunc_Lapi_Routine_api_Routine__eq ..).trans hr)
def d_r07_Find_j1 (G : GT) (K : KT) (L : Nat) (hp0 : HP)   (hp : HP) (ef : Eff) : KR :=
  some (finK false hp0 (.int .i64 (-1)) hp ef)
theorem d_r07_Find_j1_eq (G : GT) (K : KT) (L : Nat) (hp0 : HP)   : codeK G 19 hp0.length K p_r07_Find L c_r07_Find_j1 (retK p_r07_Find a_r07_Find hp0) (retK p_r07_Find a_r07_Find hp0) [] = fun e hp ef => d_r07_Find_j1 G K L hp0   hp ef := by
  kernel_rfl
def d_r07_Find_l0 (G : GT) (K : KT) (L : Nat) (hp0 : HP) (k0 : HP → Eff → KR) : Nat → AV → AV → AV → AV → HP → Eff → KR
  | 0, _, _, _, _, _, _ => none
  | m + 1, x0, x1, x5, y5, hp, ef =>
    optK (lenVal hp .slice x0) fun v0 =>
    optK (binVal .lss .prim x5 v0) fun v1 =>
    ifK v1
    (optK (iaVal (.slice 1) x0 x5) fun v2 =>
    optK (ldcVal hp v2) fun v3 =>
    optK (binVal .eql .prim v3 x1) fun v4 =>
    ifK v4
    (some (finK false hp0 y5 hp ef))
    (optK (binVal .add .prim x5 (.int .i64 1)) fun v5 =>
    d_r07_Find_l0 G K L hp0 k0 m x0 x1 v5 v5 hp ef))
    (k0  hp ef)
theorem d_r07_Find_l0_lp (G : GT) (K : KT) (L : Nat) (hp0 : HP) (k0 : HP → Eff → KR)  : ∀ m, loopK (fun n' => codeK G 19 hp0.length K p_r07_Find L c_r07_Find_l0b n' (retK p_r07_Find a_r07_Find hp0) [(0, (fun e hp ef => k0  hp ef))]) m = fun e hp ef => d_r07_Find_l0 G K L hp0 k0 m (e 0).rd (e 1).rd (e 5).rd (e 5).val hp ef := by
  intro m
  induction m with
  | zero => rfl
  | succ m ih =>
    show codeK G 19 hp0.length K p_r07_Find L c_r07_Find_l0b (loopK _ m) (retK p_r07_Find a_r07_Find hp0) [(0, (fun e hp ef => k0  hp ef))] = _
    rw [ih]
    kernel_rfl
theorem d_r07_Find_l0_eq (G : GT) (K : KT) (L : Nat) (hp0 : HP) (k0 : HP → Eff → KR)  (zn : Cont) : codeK G 19 hp0.length K p_r07_Find L c_r07_Find_l0 zn (retK p_r07_Find a_r07_Find hp0) [(0, (fun e hp ef => k0  hp ef))] = fun e hp ef => d_r07_Find_l0 G K L hp0 k0 L (e 0).rd (e 1).rd (e 5).rd (e 5).val hp ef := d_r07_Find_l0_lp G K L hp0 k0  L
def d_r07_Find (G : GT) (K : KT) (L : Nat) (x0 x1 : AV) (hp0 : HP) : KR :=
  d_r07_Find_l0 G K L hp0 (d_r07_Find_j1 G K L hp0 ) L (AV.ro x0) (AV.ro x1) (.int .i64 0) (.int .i64 0) hp0 none
theorem d_r07_Find_eq (G : GT) (K : KT) (L : Nat) (x0 x1 : AV) (hp0 : HP) : fnK G K p_r07_Find L a_r07_Find [x0, x1] hp0 = d_r07_Find G K L x0 x1 hp0 := by
  show codeK G 19 hp0.length K p_r07_Find L c_r07_Find (retK p_r07_Find a_r07_Find hp0) (retK p_r07_Find a_r07_Find hp0) [] (argE [x0, x1]) hp0 none = _
  simp only [c_r07_Find, codeK_seq, codeK_block, codeK_scope, codeK_cond]
  rw [d_r07_Find_j1_eq G K L hp0  , d_r07_Find_l0_eq G K L hp0 (d_r07_Find_j1 G K L hp0 )  _]
  kernel_rfl
theorem r07_Find_run {C : Cfg} (h : C.T F_r07_Find = some a_r07_Find) {n : Nat} {x0 x1 : AV} {hp : HP} {r : AV × HP × Eff} (hr : d_r07_Find C.G (evalCall C n) C.L x0 x1 hp = some r) : evalCall C (n + 1) F_r07_Find [x0, x1] hp = some r := fnK_ok h (Nat.le_of_ble_eq_true rfl) ((d_r07_Find_eq ..).trans hr)
def d_model_place (G : GT) (K : KT) (L : Nat) (x0 x1 : AV) (hp0 : HP) : KR :=
  optK (boxV 13 (AV.ro x0)) fun v1 =>
  letK (hp0 ++ [.cells v1 ty_api_SiteDecl]) fun h0 =>
  optK (boxV 1 (AV.ro x1)) fun v3 =>
  letK (h0 ++ [.cells v3 ty_string]) fun h2 =>
  optK (faVal 1 (.ptr (hp0).length 0)) fun v4 =>
  optK (ldcVal h2 v4) fun v5 =>
  opt3 (K F_slices_IndexFunc_Lapi_Value_api_Value_ [v5, (.fn F_model_place_1 [] [(.ptr (h0).length 0)])] h2) fun v6 h7 f8 =>
  optK (binVal .geq .prim (AV.ro v6) (.int .i64 0)) fun v9 =>
  ifK v9
  (some (finK false hp0 (.tup [(AV.nm (.str [118, 97, 114])), (AV.nm v6)]) h7 (afterK hp0.length none f8)))
  (optK (faVal 2 (.ptr (hp0).length 0)) fun v10 =>
  optK (ldcVal h7 v10) fun v11 =>
  opt3 (K F_slices_IndexFunc_Lapi_ResourceDecl_api_ResourceDecl_ [v11, (.fn F_model_place_2 [] [(.ptr (h0).length 0)])] h7) fun v12 h13 f14 =>
  optK (binVal .geq .prim (AV.ro v12) (.int .i64 0)) fun v15 =>
  ifK v15
  (some (finK false hp0 (.tup [(AV.nm (.str [114, 101, 115, 111, 117, 114, 99, 101])), (AV.nm v12)]) h13 (afterK hp0.length (afterK hp0.length none f8) f14)))
  (optK (faVal 3 (.ptr (hp0).length 0)) fun v16 =>
  optK (ldcVal h13 v16) fun v17 =>
  opt3 (K F_slices_IndexFunc_Lapi_StoreDecl_api_StoreDecl_ [v17, (.fn F_model_place_3 [] [(.ptr (h0).length 0)])] h13) fun v18 h19 f20 =>
  optK (binVal .geq .prim (AV.ro v18) (.int .i64 0)) fun v21 =>
  ifK v21
  (some (finK false hp0 (.tup [(AV.nm (.str [115, 116, 111, 114, 101])), (AV.nm v18)]) h19 (afterK hp0.length (afterK hp0.length (afterK hp0.length none f8) f14) f20)))
  (optK (faVal 4 (.ptr (hp0).length 0)) fun v22 =>
  optK (ldcVal h19 v22) fun v23 =>
  opt3 (K F_slices_IndexFunc_Lapi_BeltDecl_api_BeltDecl_ [v23, (.fn F_model_place_4 [] [(.ptr (h0).length 0)])] h19) fun v24 h25 f26 =>
  optK (binVal .geq .prim (AV.ro v24) (.int .i64 0)) fun v27 =>
  ifK v27
  (some (finK false hp0 (.tup [(AV.nm (.str [98, 101, 108, 116])), (AV.nm v24)]) h25 (afterK hp0.length (afterK hp0.length (afterK hp0.length (afterK hp0.length none f8) f14) f20) f26)))
  (optK (faVal 5 (.ptr (hp0).length 0)) fun v28 =>
  optK (ldcVal h25 v28) fun v29 =>
  optK (ldcVal h25 (.ptr (h0).length 0)) fun v30 =>
  opt3 (K F_slices_Index_Lstring_string_ [v29, v30] h25) fun v31 h32 f33 =>
  optK (binVal .geq .prim (AV.ro v31) (.int .i64 0)) fun v34 =>
  ifK v34
  (some (finK false hp0 (.tup [(AV.nm (.str [113, 117, 101, 117, 101])), (AV.nm v31)]) h32 (afterK hp0.length (afterK hp0.length (afterK hp0.length (afterK hp0.length (afterK hp0.length none f8) f14) f20) f26) f33)))
  (optK (faVal 6 (.ptr (hp0).length 0)) fun v35 =>
  optK (ldcVal h32 v35) fun v36 =>
  optK (ldcVal h32 (.ptr (h0).length 0)) fun v37 =>
  opt3 (K F_slices_Index_Lstring_string_ [v36, v37] h32) fun v38 h39 f40 =>
  optK (binVal .geq .prim (AV.ro v38) (.int .i64 0)) fun v41 =>
  ifK v41
  (some (finK false hp0 (.tup [(AV.nm (.str [115, 116, 114, 101, 97, 109])), (AV.nm v38)]) h39 (afterK hp0.length (afterK hp0.length (afterK hp0.length (afterK hp0.length (afterK hp0.length (afterK hp0.length none f8) f14) f20) f26) f33) f40)))
  (optK (faVal 7 (.ptr (hp0).length 0)) fun v42 =>
  optK (ldcVal h39 v42) fun v43 =>
  optK (ldcVal h39 (.ptr (h0).length 0)) fun v44 =>
  opt3 (K F_slices_Index_Lstring_string_ [v43, v44] h39) fun v45 h46 f47 =>
  optK (binVal .geq .prim (AV.ro v45) (.int .i64 0)) fun v48 =>
  ifK v48
  (some (finK false hp0 (.tup [(AV.nm (.str [116, 97, 108, 108, 121])), (AV.nm v45)]) h46 (afterK hp0.length (afterK hp0.length (afterK hp0.length (afterK hp0.length (afterK hp0.length (afterK hp0.length (afterK hp0.length none f8) f14) f20) f26) f33) f40) f47)))
  (optK (faVal 8 (.ptr (hp0).length 0)) fun v49 =>
  optK (ldcVal h46 v49) fun v50 =>
  optK (ldcVal h46 (.ptr (h0).length 0)) fun v51 =>
  opt3 (K F_slices_Index_Lstring_string_ [v50, v51] h46) fun v52 h53 f54 =>
  optK (binVal .geq .prim (AV.ro v52) (.int .i64 0)) fun v55 =>
  ifK v55
  (some (finK false hp0 (.tup [(AV.nm (.str [108, 101, 118, 101, 108])), (AV.nm v52)]) h53 (afterK hp0.length (afterK hp0.length (afterK hp0.length (afterK hp0.length (afterK hp0.length (afterK hp0.length (afterK hp0.length (afterK hp0.length none f8) f14) f20) f26) f33) f40) f47) f54)))
  (optK (faVal 9 (.ptr (hp0).length 0)) fun v56 =>
  optK (ldcVal h53 v56) fun v57 =>
  optK (ldcVal h53 (.ptr (h0).length 0)) fun v58 =>
  opt3 (K F_slices_Index_Lstring_string_ [v57, v58] h53) fun v59 h60 f61 =>
  optK (binVal .geq .prim (AV.ro v59) (.int .i64 0)) fun v62 =>
  ifK v62
  (some (finK false hp0 (.tup [(AV.nm (.str [99, 111, 117, 110, 116])), (AV.nm v59)]) h60 (afterK hp0.length (afterK hp0.length (afterK hp0.length (afterK hp0.length (afterK hp0.length (afterK hp0.length (afterK hp0.length (afterK hp0.length (afterK hp0.length none f8) f14) f20) f26) f33) f40) f47) f54) f61)))
  (optK (ldaVal h60 13 (.ptr (hp0).length 0)) fun v63 =>
  optK (ldcVal h60 (.ptr (h0).length 0)) fun v64 =>
  opt3 (K F_model_Routine [v63, v64] h60) fun v65 h66 f67 =>
  optK (binVal .geq .prim (AV.ro v65) (.int .i64 0)) fun v68 =>
  ifK v68
  (some (finK false hp0 (.tup [(AV.nm (.str [114, 111, 117, 116, 105, 110, 101])), (AV.nm v65)]) h66 (afterK hp0.length (afterK hp0.length (afterK hp0.length (afterK hp0.length (afterK hp0.length (afterK hp0.length (afterK hp0.length (afterK hp0.length (afterK hp0.length (afterK hp0.length none f8) f14) f20) f26) f33) f40) f47) f54) f61) f67)))
  (some (finK false hp0 (.tup [(AV.nm (.str [])), (AV.nm (.int .i64 (-1)))]) h66 (afterK hp0.length (afterK hp0.length (afterK hp0.length (afterK hp0.length (afterK hp0.length (afterK hp0.length (afterK hp0.length (afterK hp0.length (afterK hp0.length (afterK hp0.length none f8) f14) f20) f26) f33) f40) f47) f54) f61) f67))))))))))))
theorem d_model_place_eq (G : GT) (K : KT) (L : Nat) (x0 x1 : AV) (hp0 : HP) : fnK G K p_model_place L a_model_place [x0, x1] hp0 = d_model_place G K L x0 x1 hp0 := by
  kernel_rfl
theorem model_place_run {C : Cfg} (h : C.T F_model_place = some a_model_place) {n : Nat} {x0 x1 : AV} {hp : HP} {r : AV × HP × Eff} (hr : d_model_place C.G (evalCall C n) C.L x0 x1 hp = some r) : evalCall C (n + 1) F_model_place [x0, x1] hp = some r := fnK_ok h (Nat.le_of_ble_eq_true rfl) ((d_model_place_eq ..).trans hr)
def d_model_place_1 (G : GT) (K : KT) (L : Nat) (x0 x1 : AV) (hp0 : HP) : KR :=
  optK (boxV 3 (AV.ro x0)) fun v1 =>
  letK (hp0 ++ [.cells v1 ty_api_Value]) fun h0 =>
  optK (faVal 0 (.ptr (hp0).length 0)) fun v2 =>
  optK (ldcVal h0 v2) fun v3 =>
  optK (ldcVal h0 (AV.ro x1)) fun v4 =>
  optK (binVal .eql .prim v3 v4) fun v5 =>
  some (finK false hp0 v5 h0 none)
theorem d_model_place_1_eq (G : GT) (K : KT) (L : Nat) (x0 x1 : AV) (hp0 : HP) : fnK G K p_model_place_1 L a_model_place_1 [x0, x1] hp0 = d_model_place_1 G K L x0 x1 hp0 := by
  kernel_rfl
theorem model_place_1_run {C : Cfg} (h : C.T F_model_place_1 = some a_model_place_1) {n : Nat} {x0 x1 : AV} {hp : HP} {r : AV × HP × Eff} (hr : d_model_place_1 C.G (evalCall C n) C.L x0 x1 hp = some r) : evalCall C (n + 1) F_model_place_1 [x0, x1] hp = some r := fnK_ok h (Nat.le_of_ble_eq_true rfl) ((d_model_place_1_eq ..).trans hr)
def d_slices_IndexFunc_Lapi_Value_api_Value__j1 (G : GT) (K : KT) (L : Nat) (hp0 : HP)   (hp : HP) (ef : Eff) : KR :=
  some (finK false hp0 (.int .i64 (-1)) hp ef)
theorem d_slices_IndexFunc_Lapi_Value_api_Value__j1_eq (G : GT) (K : KT) (L : Nat) (hp0 : HP)   : codeK G 19 hp0.length K p_slices_IndexFunc_Lapi_Value_api_Value_ L c_slices_IndexFunc_Lapi_Value_api_Value__j1 (retK p_slices_IndexFunc_Lapi_Value_api_Value_ a_slices_IndexFunc_Lapi_Value_api_Value_ hp0) (retK p_slices_IndexFunc_Lapi_Value_api_Value_ a_slices_IndexFunc_Lapi_Value_api_Value_ hp0) [] = fun e hp ef => d_slices_IndexFunc_Lapi_Value_api_Value__j1 G K L hp0   hp ef := by
  kernel_rfl
def d_slices_IndexFunc_Lapi_Value_api_Value__l0 (G : GT) (K : KT) (L : Nat) (hp0 : HP) (k0 : HP → Eff → KR) : Nat → AV → AV → AV → AV → HP → Eff → KR
  | 0, _, _, _, _, _, _ => none
  | m + 1, x0, x1, x7, x8, hp, ef =>
    optK (binVal .lss .prim x8 x7) fun v1 =>
    ifK v1
    (optK (iaVal (.slice 3) x0 x8) fun v2 =>
    optK (ldaVal hp 3 v2) fun v3 =>
    opt3 (callV K x1 [v3] hp) fun v4 h5 f6 =>
    ifK (AV.ro v4)
    (some (finK false hp0 x8 h5 (afterK hp0.length ef f6)))
    (optK (binVal .add .prim x8 (.int .i64 1)) fun v7 =>
    d_slices_IndexFunc_Lapi_Value_api_Value__l0 G K L hp0 k0 m x0 x1 x7 v7 h5 (afterK hp0.length ef f6)))
    (k0  hp ef)
theorem d_slices_IndexFunc_Lapi_Value_api_Value__l0_lp (G : GT) (K : KT) (L : Nat) (hp0 : HP) (k0 : HP → Eff → KR)  : ∀ m, loopK (fun n' => codeK G 19 hp0.length K p_slices_IndexFunc_Lapi_Value_api_Value_ L c_slices_IndexFunc_Lapi_Value_api_Value__l0b n' (retK p_slices_IndexFunc_Lapi_Value_api_Value_ a_slices_IndexFunc_Lapi_Value_api_Value_ hp0) [(0, (fun e hp ef => k0  hp ef))]) m = fun e hp ef => d_slices_IndexFunc_Lapi_Value_api_Value__l0 G K L hp0 k0 m (e 0).rd (e 1).rd (e 7).rd (e 8).rd hp ef := by
  intro m
  induction m with
  | zero => rfl
  | succ m ih =>
    show codeK G 19 hp0.length K p_slices_IndexFunc_Lapi_Value_api_Value_ L c_slices_IndexFunc_Lapi_Value_api_Value__l0b (loopK _ m) (retK p_slices_IndexFunc_Lapi_Value_api_Value_ a_slices_IndexFunc_Lapi_Value_api_Value_ hp0) [(0, (fun e hp ef => k0  hp ef))] = _
    rw [ih]
    kernel_rfl
theorem d_slices_IndexFunc_Lapi_Value_api_Value__l0_eq (G : GT) (K : KT) (L : Nat) (hp0 : HP) (k0 : HP → Eff → KR)  (zn : Cont) : codeK G 19 hp0.length K p_slices_IndexFunc_Lapi_Value_api_Value_ L c_slices_IndexFunc_Lapi_Value_api_Value__l0 zn (retK p_slices_IndexFunc_Lapi_Value_api_Value_ a_slices_IndexFunc_Lapi_Value_api_Value_ hp0) [(0, (fun e hp ef => k0  hp ef))] = fun e hp ef => d_slices_IndexFunc_Lapi_Value_api_Value__l0 G K L hp0 k0 L (e 0).rd (e 1).rd (e 7).rd (e 8).rd hp ef := d_slices_IndexFunc_Lapi_Value_api_Value__l0_lp G K L hp0 k0  L
def d_slices_IndexFunc_Lapi_Value_api_Value_ (G : GT) (K : KT) (L : Nat) (x0 x1 : AV) (hp0 : HP) : KR :=
  optK (lenVal hp0 .slice (AV.ro x0)) fun v0 =>
  d_slices_IndexFunc_Lapi_Value_api_Value__l0 G K L hp0 (d_slices_IndexFunc_Lapi_Value_api_Value__j1 G K L hp0 ) L (AV.ro x0) (AV.ro x1) v0 (.int .i64 0) hp0 none
theorem d_slices_IndexFunc_Lapi_Value_api_Value__eq (G : GT) (K : KT) (L : Nat) (x0 x1 : AV) (hp0 : HP) : fnK G K p_slices_IndexFunc_Lapi_Value_api_Value_ L a_slices_IndexFunc_Lapi_Value_api_Value_ [x0, x1] hp0 = d_slices_IndexFunc_Lapi_Value_api_Value_ G K L x0 x1 hp0 := by
  show codeK G 19 hp0.length K p_slices_IndexFunc_Lapi_Value_api_Value_ L c_slices_IndexFunc_Lapi_Value_api_Value_ (retK p_slices_IndexFunc_Lapi_Value_api_Value_ a_slices_IndexFunc_Lapi_Value_api_Value_ hp0) (retK p_slices_IndexFunc_Lapi_Value_api_Value_ a_slices_IndexFunc_Lapi_Value_api_Value_ hp0) [] (argE [x0, x1]) hp0 none = _
  simp only [c_slices_IndexFunc_Lapi_Value_api_Value_, codeK_seq, codeK_block, codeK_scope, codeK_cond]
  rw [d_slices_IndexFunc_Lapi_Value_api_Value__j1_eq G K L hp0  , d_slices_IndexFunc_Lapi_Value_api_Value__l0_eq G K L hp0 (d_slices_IndexFunc_Lapi_Value_api_Value__j1 G K L hp0 )  _]
  kernel_rfl
theorem slices_IndexFunc_Lapi_Value_api_Value__run {C : Cfg} (h : C.T F_slices_IndexFunc_Lapi_Value_api_Value_ = some a_slices_IndexFunc_Lapi_Value_api_Value_) {n : Nat} {x0 x1 : AV} {hp : HP} {r : AV × HP × Eff} (hr : d_slices_IndexFunc_Lapi_Value_api_Value_ C.G (evalCall C n) C.L x0 x1 hp = some r) : evalCall C (n + 1) F_slices_IndexFunc_Lapi_Value_api_Value_ [x0, x1] hp = some r := fnK_ok h (Nat.le_of_ble_eq_true rfl) ((d_slices_IndexFunc_Lapi_Value_api_Value__eq ..).trans hr)
def d_model_place_2 (G : GT) (K : KT) (L : Nat) (x0 x1 : AV) (hp0 : HP) : KR :=
  optK (boxV 17 (AV.ro x0)) fun v1 =>
  letK (hp0 ++ [.cells v1 ty_api_ResourceDecl]) fun h0 =>
  optK (faVal 0 (.ptr (hp0).length 0)) fun v2 =>
  optK (ldcVal h0 v2) fun v3 =>
  optK (ldcVal h0 (AV.ro x1)) fun v4 =>
  optK (binVal .eql .prim v3 v4) fun v5 =>
  some (finK false hp0 v5 h0 none)
theorem d_model_place_2_eq (G : GT) (K : KT) (L : Nat) (x0 x1 : AV) (hp0 : HP) : fnK G K p_model_place_2 L a_model_place_2 [x0, x1] hp0 = d_model_place_2 G K L x0 x1 hp0 := by
  kernel_rfl
theorem model_place_2_run {C : Cfg} (h : C.T F_model_place_2 = some a_model_place_2) {n : Nat} {x0 x1 : AV} {hp : HP} {r : AV × HP × Eff} (hr : d_model_place_2 C.G (evalCall C n) C.L x0 x1 hp = some r) : evalCall C (n + 1) F_model_place_2 [x0, x1] hp = some r := fnK_ok h (Nat.le_of_ble_eq_true rfl) ((d_model_place_2_eq ..).trans hr)
def d_slices_IndexFunc_Lapi_ResourceDecl_api_ResourceDecl__j1 (G : GT) (K : KT) (L : Nat) (hp0 : HP)   (hp : HP) (ef : Eff) : KR :=
  some (finK false hp0 (.int .i64 (-1)) hp ef)
theorem d_slices_IndexFunc_Lapi_ResourceDecl_api_ResourceDecl__j1_eq (G : GT) (K : KT) (L : Nat) (hp0 : HP)   : codeK G 19 hp0.length K p_slices_IndexFunc_Lapi_ResourceDecl_api_ResourceDecl_ L c_slices_IndexFunc_Lapi_ResourceDecl_api_ResourceDecl__j1 (retK p_slices_IndexFunc_Lapi_ResourceDecl_api_ResourceDecl_ a_slices_IndexFunc_Lapi_ResourceDecl_api_ResourceDecl_ hp0) (retK p_slices_IndexFunc_Lapi_ResourceDecl_api_ResourceDecl_ a_slices_IndexFunc_Lapi_ResourceDecl_api_ResourceDecl_ hp0) [] = fun e hp ef => d_slices_IndexFunc_Lapi_ResourceDecl_api_ResourceDecl__j1 G K L hp0   hp ef := by
  kernel_rfl
def d_slices_IndexFunc_Lapi_ResourceDecl_api_ResourceDecl__l0 (G : GT) (K : KT) (L : Nat) (hp0 : HP) (k0 : HP → Eff → KR) : Nat → AV → AV → AV → AV → HP → Eff → KR
  | 0, _, _, _, _, _, _ => none
  | m + 1, x0, x1, x7, x8, hp, ef =>
    optK (binVal .lss .prim x8 x7) fun v1 =>
    ifK v1
    (optK (iaVal (.slice 17) x0 x8) fun v2 =>
    optK (ldaVal hp 17 v2) fun v3 =>
    opt3 (callV K x1 [v3] hp) fun v4 h5 f6 =>
    ifK (AV.ro v4)
    (some (finK false hp0 x8 h5 (afterK hp0.length ef f6)))
    (optK (binVal .add .prim x8 (.int .i64 1)) fun v7 =>
    d_slices_IndexFunc_Lapi_ResourceDecl_api_ResourceDecl__l0 G K L hp0 k0 m x0 x1 x7 v7 h5 (afterK hp0.length ef f6)))
    (k0  hp ef)
theorem d_slices_IndexFunc_Lapi_ResourceDecl_api_ResourceDecl__l0_lp (G : GT) (K : KT) (L : Nat) (hp0 : HP) (k0 : HP → Eff → KR)  : ∀ m, loopK (fun n' => codeK G 19 hp0.length K p_slices_IndexFunc_Lapi_ResourceDecl_api_ResourceDecl_ L c_slices_IndexFunc_Lapi_ResourceDecl_api_ResourceDecl__l0b n' (retK p_slices_IndexFunc_Lapi_ResourceDecl_api_ResourceDecl_ a_slices_IndexFunc_Lapi_ResourceDecl_api_ResourceDecl_ hp0) [(0, (fun e hp ef => k0  hp ef))]) m = fun e hp ef => d_slices_IndexFunc_Lapi_ResourceDecl_api_ResourceDecl__l0 G K L hp0 k0 m (e 0).rd (e 1).rd (e 7).rd (e 8).rd hp ef := by
  intro m
  induction m with
  | zero => rfl
  | succ m ih =>
    show codeK G 19 hp0.length K p_slices_IndexFunc_Lapi_ResourceDecl_api_ResourceDecl_ L c_slices_IndexFunc_Lapi_ResourceDecl_api_ResourceDecl__l0b (loopK _ m) (retK p_slices_IndexFunc_Lapi_ResourceDecl_api_ResourceDecl_ a_slices_IndexFunc_Lapi_ResourceDecl_api_ResourceDecl_ hp0) [(0, (fun e hp ef => k0  hp ef))] = _
    rw [ih]
    kernel_rfl
theorem d_slices_IndexFunc_Lapi_ResourceDecl_api_ResourceDecl__l0_eq (G : GT) (K : KT) (L : Nat) (hp0 : HP) (k0 : HP → Eff → KR)  (zn : Cont) : codeK G 19 hp0.length K p_slices_IndexFunc_Lapi_ResourceDecl_api_ResourceDecl_ L c_slices_IndexFunc_Lapi_ResourceDecl_api_ResourceDecl__l0 zn (retK p_slices_IndexFunc_Lapi_ResourceDecl_api_ResourceDecl_ a_slices_IndexFunc_Lapi_ResourceDecl_api_ResourceDecl_ hp0) [(0, (fun e hp ef => k0  hp ef))] = fun e hp ef => d_slices_IndexFunc_Lapi_ResourceDecl_api_ResourceDecl__l0 G K L hp0 k0 L (e 0).rd (e 1).rd (e 7).rd (e 8).rd hp ef := d_slices_IndexFunc_Lapi_ResourceDecl_api_ResourceDecl__l0_lp G K L hp0 k0  L
def d_slices_IndexFunc_Lapi_ResourceDecl_api_ResourceDecl_ (G : GT) (K : KT) (L : Nat) (x0 x1 : AV) (hp0 : HP) : KR :=
  optK (lenVal hp0 .slice (AV.ro x0)) fun v0 =>
  d_slices_IndexFunc_Lapi_ResourceDecl_api_ResourceDecl__l0 G K L hp0 (d_slices_IndexFunc_Lapi_ResourceDecl_api_ResourceDecl__j1 G K L hp0 ) L (AV.ro x0) (AV.ro x1) v0 (.int .i64 0) hp0 none
theorem d_slices_IndexFunc_Lapi_ResourceDecl_api_ResourceDecl__eq (G : GT) (K : KT) (L : Nat) (x0 x1 : AV) (hp0 : HP) : fnK G K p_slices_IndexFunc_Lapi_ResourceDecl_api_ResourceDecl_ L a_slices_IndexFunc_Lapi_ResourceDecl_api_ResourceDecl_ [x0, x1] hp0 = d_slices_IndexFunc_Lapi_ResourceDecl_api_ResourceDecl_ G K L x0 x1 hp0 := by
  show codeK G 19 hp0.length K p_slices_IndexFunc_Lapi_ResourceDecl_api_ResourceDecl_ L c_slices_IndexFunc_Lapi_ResourceDecl_api_ResourceDecl_ (retK p_slices_IndexFunc_Lapi_ResourceDecl_api_ResourceDecl_ a_slices_IndexFunc_Lapi_ResourceDecl_api_ResourceDecl_ hp0) (retK p_slices_IndexFunc_Lapi_ResourceDecl_api_ResourceDecl_ a_slices_IndexFunc_Lapi_ResourceDecl_api_ResourceDecl_ hp0) [] (argE [x0, x1]) hp0 none = _
  simp only [c_slices_IndexFunc_Lapi_ResourceDecl_api_ResourceDecl_, codeK_seq, codeK_block, codeK_scope, codeK_cond]
  rw [d_slices_IndexFunc_Lapi_ResourceDecl_api_ResourceDecl__j1_eq G K L hp0  , d_slices_IndexFunc_Lapi_ResourceDecl_api_ResourceDecl__l0_eq G K L hp0 (d_slices_IndexFunc_Lapi_ResourceDecl_api_ResourceDecl__j1 G K L hp0 )  _]
  kernel_rfl
theorem slices_IndexFunc_Lapi_ResourceDecl_api_ResourceDecl__run {C : Cfg} (h : C.T F_slices_IndexFunc_Lapi_ResourceDecl_api_ResourceDecl_ = some a_slices_IndexFunc_Lapi_ResourceDecl_api_ResourceDecl_) {n : Nat} {x0 x1 : AV} {hp : HP} {r : AV × HP × Eff} (hr : d_slices_IndexFunc_Lapi_ResourceDecl_api_ResourceDecl_ C.G (evalCall C n) C.L x0 x1 hp = some r) : evalCall C (n + 1) F_slices_IndexFunc_Lapi_ResourceDecl_api_ResourceDecl_ [x0, x1] hp = some r := fnK_ok h (Nat.le_of_ble_eq_true rfl) ((d_slices_IndexFunc_Lapi_ResourceDecl_api_ResourceDecl__eq ..).trans hr)
def d_model_place_3 (G : GT) (K : KT) (L : Nat) (x0 x1 : AV) (hp0 : HP) : KR :=
  optK (boxV 3 (AV.ro x0)) fun v1 =>
  letK (hp0 ++ [.cells v1 ty_api_StoreDecl]) fun h0 =>
  optK (faVal 0 (.ptr (hp0).length 0)) fun v2 =>
  optK (ldcVal h0 v2) fun v3 =>
  optK (ldcVal h0 (AV.ro x1)) fun v4 =>
  optK (binVal .eql .prim v3 v4) fun v5 =>
  some (finK false hp0 v5 h0 none)
theorem d_model_place_3_eq (G : GT) (K : KT) (L : Nat) (x0 x1 : AV) (hp0 : HP) : fnK G K p_model_place_3 L a_model_place_3 [x0, x1] hp0 = d_model_place_3 G K L x0 x1 hp0 := by
  kernel_rfl
theorem model_place_3_run {C : Cfg} (h : C.T F_model_place_3 = some a_model_place_3) {n : Nat} {x0 x1 : AV} {hp : HP} {r : AV × HP × Eff} (hr : d_model_place_3 C.G (evalCall C n) C.L x0 x1 hp = some r) : evalCall C (n + 1) F_model_place_3 [x0, x1] hp = some r := fnK_ok h (Nat.le_of_ble_eq_true rfl) ((d_model_place_3_eq ..).trans hr)
def d_slices_IndexFunc_Lapi_StoreDecl_api_StoreDecl__j1 (G : GT) (K : KT) (L : Nat) (hp0 : HP)   (hp : HP) (ef : Eff) : KR :=
  some (finK false hp0 (.int .i64 (-1)) hp ef)
theorem d_slices_IndexFunc_Lapi_StoreDecl_api_StoreDecl__j1_eq (G : GT) (K : KT) (L : Nat) (hp0 : HP)   : codeK G 19 hp0.length K p_slices_IndexFunc_Lapi_StoreDecl_api_StoreDecl_ L c_slices_IndexFunc_Lapi_StoreDecl_api_StoreDecl__j1 (retK p_slices_IndexFunc_Lapi_StoreDecl_api_StoreDecl_ a_slices_IndexFunc_Lapi_StoreDecl_api_StoreDecl_ hp0) (retK p_slices_IndexFunc_Lapi_StoreDecl_api_StoreDecl_ a_slices_IndexFunc_Lapi_StoreDecl_api_StoreDecl_ hp0) [] = fun e hp ef => d_slices_IndexFunc_Lapi_StoreDecl_api_StoreDecl__j1 G K L hp0   hp ef := by
  kernel_rfl
def d_slices_IndexFunc_Lapi_StoreDecl_api_StoreDecl__l0 (G : GT) (K : KT) (L : Nat) (hp0 : HP) (k0 : HP → Eff → KR) : Nat → AV → AV → AV → AV → HP → Eff → KR
  | 0, _, _, _, _, _, _ => none
  | m + 1, x0, x1, x7, x8, hp, ef =>
    optK (binVal .lss .prim x8 x7) fun v1 =>
    ifK v1
    (optK (iaVal (.slice 3) x0 x8) fun v2 =>
    optK (ldaVal hp 3 v2) fun v3 =>
    opt3 (callV K x1 [v3] hp) fun v4 h5 f6 =>
    ifK (AV.ro v4)
    (some (finK false hp0 x8 h5 (afterK hp0.length ef f6)))
    (optK (binVal .add .prim x8 (.int .i64 1)) fun v7 =>
    d_slices_IndexFunc_Lapi_StoreDecl_api_StoreDecl__l0 G K L hp0 k0 m x0 x1 x7 v7 h5 (afterK hp0.length ef f6)))
    (k0  hp ef)
theorem d_slices_IndexFunc_Lapi_StoreDecl_api_StoreDecl__l0_lp (G : GT) (K : KT) (L : Nat) (hp0 : HP) (k0 : HP → Eff → KR)  : ∀ m, loopK (fun n' => codeK G 19 hp0.length K p_slices_IndexFunc_Lapi_StoreDecl_api_StoreDecl_ L c_slices_IndexFunc_Lapi_StoreDecl_api_StoreDecl__l0b n' (retK p_slices_IndexFunc_Lapi_StoreDecl_api_StoreDecl_ a_slices_IndexFunc_Lapi_StoreDecl_api_StoreDecl_ hp0) [(0, (fun e hp ef => k0  hp ef))]) m = fun e hp ef => d_slices_IndexFunc_Lapi_StoreDecl_api_StoreDecl__l0 G K L hp0 k0 m (e 0).rd (e 1).rd (e 7).rd (e 8).rd hp ef := by
  intro m
  induction m with
  | zero => rfl
  | succ m ih =>
    show codeK G 19 hp0.length K p_slices_IndexFunc_Lapi_StoreDecl_api_StoreDecl_ L c_slices_IndexFunc_Lapi_StoreDecl_api_StoreDecl__l0b (loopK _ m) (retK p_slices_IndexFunc_Lapi_StoreDecl_api_StoreDecl_ a_slices_IndexFunc_Lapi_StoreDecl_api_StoreDecl_ hp0) [(0, (fun e hp ef => k0  hp ef))] = _
    rw [ih]
    kernel_rfl
theorem d_slices_IndexFunc_Lapi_StoreDecl_api_StoreDecl__l0_eq (G : GT) (K : KT) (L : Nat) (hp0 : HP) (k0 : HP → Eff → KR)  (zn : Cont) : codeK G 19 hp0.length K p_slices_IndexFunc_Lapi_StoreDecl_api_StoreDecl_ L c_slices_IndexFunc_Lapi_StoreDecl_api_StoreDecl__l0 zn (retK p_slices_IndexFunc_Lapi_StoreDecl_api_StoreDecl_ a_slices_IndexFunc_Lapi_StoreDecl_api_StoreDecl_ hp0) [(0, (fun e hp ef => k0  hp ef))] = fun e hp ef => d_slices_IndexFunc_Lapi_StoreDecl_api_StoreDecl__l0 G K L hp0 k0 L (e 0).rd (e 1).rd (e 7).rd (e 8).rd hp ef := d_slices_IndexFunc_Lapi_StoreDecl_api_StoreDecl__l0_lp G K L hp0 k0  L
def d_slices_IndexFunc_Lapi_StoreDecl_api_StoreDecl_ (G : GT) (K : KT) (L : Nat) (x0 x1 : AV) (hp0 : HP) : KR :=
  optK (lenVal hp0 .slice (AV.ro x0)) fun v0 =>
  d_slices_IndexFunc_Lapi_StoreDecl_api_StoreDecl__l0 G K L hp0 (d_slices_IndexFunc_Lapi_StoreDecl_api_StoreDecl__j1 G K L hp0 ) L (AV.ro x0) (AV.ro x1) v0 (.int .i64 0) hp0 none
theorem d_slices_IndexFunc_Lapi_StoreDecl_api_StoreDecl__eq (G : GT) (K : KT) (L : Nat) (x0 x1 : AV) (hp0 : HP) : fnK G K p_slices_IndexFunc_Lapi_StoreDecl_api_StoreDecl_ L a_slices_IndexFunc_Lapi_StoreDecl_api_StoreDecl_ [x0, x1] hp0 = d_slices_IndexFunc_Lapi_StoreDecl_api_StoreDecl_ G K L x0 x1 hp0 := by
  show codeK G 19 hp0.length K p_slices_IndexFunc_Lapi_StoreDecl_api_StoreDecl_ L c_slices_IndexFunc_Lapi_StoreDecl_api_StoreDecl_ (retK p_slices_IndexFunc_Lapi_StoreDecl_api_StoreDecl_ a_slices_IndexFunc_Lapi_StoreDecl_api_StoreDecl_ hp0) (retK p_slices_IndexFunc_Lapi_StoreDecl_api_StoreDecl_ a_slices_IndexFunc_Lapi_StoreDecl_api_StoreDecl_ hp0) [] (argE [x0, x1]) hp0 none = _
  simp only [c_slices_IndexFunc_Lapi_StoreDecl_api_StoreDecl_, codeK_seq, codeK_block, codeK_scope, codeK_cond]
  rw [d_slices_IndexFunc_Lapi_StoreDecl_api_StoreDecl__j1_eq G K L hp0  , d_slices_IndexFunc_Lapi_StoreDecl_api_StoreDecl__l0_eq G K L hp0 (d_slices_IndexFunc_Lapi_StoreDecl_api_StoreDecl__j1 G K L hp0 )  _]
  kernel_rfl
theorem slices_IndexFunc_Lapi_StoreDecl_api_StoreDecl__run {C : Cfg} (h : C.T F_slices_IndexFunc_Lapi_StoreDecl_api_StoreDecl_ = some a_slices_IndexFunc_Lapi_StoreDecl_api_StoreDecl_) {n : Nat} {x0 x1 : AV} {hp : HP} {r : AV × HP × Eff} (hr : d_slices_IndexFunc_Lapi_StoreDecl_api_StoreDecl_ C.G (evalCall C n) C.L x0 x1 hp = some r) : evalCall C (n + 1) F_slices_IndexFunc_Lapi_StoreDecl_api_StoreDecl_ [x0, x1] hp = some r := fnK_ok h (Nat.le_of_ble_eq_true rfl) ((d_slices_IndexFunc_Lapi_StoreDecl_api_StoreDecl__eq ..).trans hr)
def d_model_place_4 (G : GT) (K : KT) (L : Nat) (x0 x1 : AV) (hp0 : HP) : KR :=
  optK (boxV 3 (AV.ro x0)) fun v1 =>
  letK (hp0 ++ [.cells v1 ty_api_BeltDecl]) fun h0 =>
  optK (faVal 0 (.ptr (hp0).length 0)) fun v2 =>
  optK (ldcVal h0 v2) fun v3 =>
  optK (ldcVal h0 (AV.ro x1)) fun v4 =>
  optK (binVal .eql .prim v3 v4) fun v5 =>
  some (finK false hp0 v5 h0 none)
theorem d_model_place_4_eq (G : GT) (K : KT) (L : Nat) (x0 x1 : AV) (hp0 : HP) : fnK G K p_model_place_4 L a_model_place_4 [x0, x1] hp0 = d_model_place_4 G K L x0 x1 hp0 := by
  kernel_rfl
theorem model_place_4_run {C : Cfg} (h : C.T F_model_place_4 = some a_model_place_4) {n : Nat} {x0 x1 : AV} {hp : HP} {r : AV × HP × Eff} (hr : d_model_place_4 C.G (evalCall C n) C.L x0 x1 hp = some r) : evalCall C (n + 1) F_model_place_4 [x0, x1] hp = some r := fnK_ok h (Nat.le_of_ble_eq_true rfl) ((d_model_place_4_eq ..).trans hr)
def d_slices_IndexFunc_Lapi_BeltDecl_api_BeltDecl__j1 (G : GT) (K : KT) (L : Nat) (hp0 : HP)   (hp : HP) (ef : Eff) : KR :=
  some (finK false hp0 (.int .i64 (-1)) hp ef)
theorem d_slices_IndexFunc_Lapi_BeltDecl_api_BeltDecl__j1_eq (G : GT) (K : KT) (L : Nat) (hp0 : HP)   : codeK G 19 hp0.length K p_slices_IndexFunc_Lapi_BeltDecl_api_BeltDecl_ L c_slices_IndexFunc_Lapi_BeltDecl_api_BeltDecl__j1 (retK p_slices_IndexFunc_Lapi_BeltDecl_api_BeltDecl_ a_slices_IndexFunc_Lapi_BeltDecl_api_BeltDecl_ hp0) (retK p_slices_IndexFunc_Lapi_BeltDecl_api_BeltDecl_ a_slices_IndexFunc_Lapi_BeltDecl_api_BeltDecl_ hp0) [] = fun e hp ef => d_slices_IndexFunc_Lapi_BeltDecl_api_BeltDecl__j1 G K L hp0   hp ef := by
  kernel_rfl
def d_slices_IndexFunc_Lapi_BeltDecl_api_BeltDecl__l0 (G : GT) (K : KT) (L : Nat) (hp0 : HP) (k0 : HP → Eff → KR) : Nat → AV → AV → AV → AV → HP → Eff → KR
  | 0, _, _, _, _, _, _ => none
  | m + 1, x0, x1, x7, x8, hp, ef =>
    optK (binVal .lss .prim x8 x7) fun v1 =>
    ifK v1
    (optK (iaVal (.slice 3) x0 x8) fun v2 =>
    optK (ldaVal hp 3 v2) fun v3 =>
    opt3 (callV K x1 [v3] hp) fun v4 h5 f6 =>
    ifK (AV.ro v4)
    (some (finK false hp0 x8 h5 (afterK hp0.length ef f6)))
    (optK (binVal .add .prim x8 (.int .i64 1)) fun v7 =>
    d_slices_IndexFunc_Lapi_BeltDecl_api_BeltDecl__l0 G K L hp0 k0 m x0 x1 x7 v7 h5 (afterK hp0.length ef f6)))
    (k0  hp ef)
theorem d_slices_IndexFunc_Lapi_BeltDecl_api_BeltDecl__l0_lp (G : GT) (K : KT) (L : Nat) (hp0 : HP) (k0 : HP → Eff → KR)  : ∀ m, loopK (fun n' => codeK G 19 hp0.length K p_slices_IndexFunc_Lapi_BeltDecl_api_BeltDecl_ L c_slices_IndexFunc_Lapi_BeltDecl_api_BeltDecl__l0b n' (retK p_slices_IndexFunc_Lapi_BeltDecl_api_BeltDecl_ a_slices_IndexFunc_Lapi_BeltDecl_api_BeltDecl_ hp0) [(0, (fun e hp ef => k0  hp ef))]) m = fun e hp ef => d_slices_IndexFunc_Lapi_BeltDecl_api_BeltDecl__l0 G K L hp0 k0 m (e 0).rd (e 1).rd (e 7).rd (e 8).rd hp ef := by
  intro m
  induction m with
  | zero => rfl
  | succ m ih =>
    show codeK G 19 hp0.length K p_slices_IndexFunc_Lapi_BeltDecl_api_BeltDecl_ L c_slices_IndexFunc_Lapi_BeltDecl_api_BeltDecl__l0b (loopK _ m) (retK p_slices_IndexFunc_Lapi_BeltDecl_api_BeltDecl_ a_slices_IndexFunc_Lapi_BeltDecl_api_BeltDecl_ hp0) [(0, (fun e hp ef => k0  hp ef))] = _
    rw [ih]
    kernel_rfl
theorem d_slices_IndexFunc_Lapi_BeltDecl_api_BeltDecl__l0_eq (G : GT) (K : KT) (L : Nat) (hp0 : HP) (k0 : HP → Eff → KR)  (zn : Cont) : codeK G 19 hp0.length K p_slices_IndexFunc_Lapi_BeltDecl_api_BeltDecl_ L c_slices_IndexFunc_Lapi_BeltDecl_api_BeltDecl__l0 zn (retK p_slices_IndexFunc_Lapi_BeltDecl_api_BeltDecl_ a_slices_IndexFunc_Lapi_BeltDecl_api_BeltDecl_ hp0) [(0, (fun e hp ef => k0  hp ef))] = fun e hp ef => d_slices_IndexFunc_Lapi_BeltDecl_api_BeltDecl__l0 G K L hp0 k0 L (e 0).rd (e 1).rd (e 7).rd (e 8).rd hp ef := d_slices_IndexFunc_Lapi_BeltDecl_api_BeltDecl__l0_lp G K L hp0 k0  L
def d_slices_IndexFunc_Lapi_BeltDecl_api_BeltDecl_ (G : GT) (K : KT) (L : Nat) (x0 x1 : AV) (hp0 : HP) : KR :=
  optK (lenVal hp0 .slice (AV.ro x0)) fun v0 =>
  d_slices_IndexFunc_Lapi_BeltDecl_api_BeltDecl__l0 G K L hp0 (d_slices_IndexFunc_Lapi_BeltDecl_api_BeltDecl__j1 G K L hp0 ) L (AV.ro x0) (AV.ro x1) v0 (.int .i64 0) hp0 none
theorem d_slices_IndexFunc_Lapi_BeltDecl_api_BeltDecl__eq (G : GT) (K : KT) (L : Nat) (x0 x1 : AV) (hp0 : HP) : fnK G K p_slices_IndexFunc_Lapi_BeltDecl_api_BeltDecl_ L a_slices_IndexFunc_Lapi_BeltDecl_api_BeltDecl_ [x0, x1] hp0 = d_slices_IndexFunc_Lapi_BeltDecl_api_BeltDecl_ G K L x0 x1 hp0 := by
  show codeK G 19 hp0.length K p_slices_IndexFunc_Lapi_BeltDecl_api_BeltDecl_ L c_slices_IndexFunc_Lapi_BeltDecl_api_BeltDecl_ (retK p_slices_IndexFunc_Lapi_BeltDecl_api_BeltDecl_ a_slices_IndexFunc_Lapi_BeltDecl_api_BeltDecl_ hp0) (retK p_slices_IndexFunc_Lapi_BeltDecl_api_BeltDecl_ a_slices_IndexFunc_Lapi_BeltDecl_api_BeltDecl_ hp0) [] (argE [x0, x1]) hp0 none = _
  simp only [c_slices_IndexFunc_Lapi_BeltDecl_api_BeltDecl_, codeK_seq, codeK_block, codeK_scope, codeK_cond]
  rw [d_slices_IndexFunc_Lapi_BeltDecl_api_BeltDecl__j1_eq G K L hp0  , d_slices_IndexFunc_Lapi_BeltDecl_api_BeltDecl__l0_eq G K L hp0 (d_slices_IndexFunc_Lapi_BeltDecl_api_BeltDecl__j1 G K L hp0 )  _]
  kernel_rfl
theorem slices_IndexFunc_Lapi_BeltDecl_api_BeltDecl__run {C : Cfg} (h : C.T F_slices_IndexFunc_Lapi_BeltDecl_api_BeltDecl_ = some a_slices_IndexFunc_Lapi_BeltDecl_api_BeltDecl_) {n : Nat} {x0 x1 : AV} {hp : HP} {r : AV × HP × Eff} (hr : d_slices_IndexFunc_Lapi_BeltDecl_api_BeltDecl_ C.G (evalCall C n) C.L x0 x1 hp = some r) : evalCall C (n + 1) F_slices_IndexFunc_Lapi_BeltDecl_api_BeltDecl_ [x0, x1] hp = some r := fnK_ok h (Nat.le_of_ble_eq_true rfl) ((d_slices_IndexFunc_Lapi_BeltDecl_api_BeltDecl__eq ..).trans hr)
def d_slices_Index_Lstring_string__j1 (G : GT) (K : KT) (L : Nat) (hp0 : HP)   (hp : HP) (ef : Eff) : KR :=
  some (finK false hp0 (.int .i64 (-1)) hp ef)
theorem d_slices_Index_Lstring_string__j1_eq (G : GT) (K : KT) (L : Nat) (hp0 : HP)   : codeK G 19 hp0.length K p_slices_Index_Lstring_string_ L c_slices_Index_Lstring_string__j1 (retK p_slices_Index_Lstring_string_ a_slices_Index_Lstring_string_ hp0) (retK p_slices_Index_Lstring_string_ a_slices_Index_Lstring_string_ hp0) [] = fun e hp ef => d_slices_Index_Lstring_string__j1 G K L hp0   hp ef := by
  kernel_rfl
def d_slices_Index_Lstring_string__l0 (G : GT) (K : KT) (L : Nat) (hp0 : HP) (k0 : HP → Eff → KR) : Nat → AV → AV → AV → AV → HP → Eff → KR
  | 0, _, _, _, _, _, _ => none
  | m + 1, x0, x1, x7, x8, hp, ef =>
    optK (binVal .lss .prim x8 x7) fun v1 =>
    ifK v1
    (optK (iaVal (.slice 1) x0 x8) fun v2 =>
    optK (ldcVal hp v2) fun v3 =>
    optK (binVal .eql .prim x1 v3) fun v4 =>
    ifK v4
    (some (finK false hp0 x8 hp ef))
    (optK (binVal .add .prim x8 (.int .i64 1)) fun v5 =>
    d_slices_Index_Lstring_string__l0 G K L hp0 k0 m x0 x1 x7 v5 hp ef))
    (k0  hp ef)
theorem d_slices_Index_Lstring_string__l0_lp (G : GT) (K : KT) (L : Nat) (hp0 : HP) (k0 : HP → Eff → KR)  : ∀ m, loopK (fun n' => codeK G 19 hp0.length K p_slices_Index_Lstring_string_ L c_slices_Index_Lstring_string__l0b n' (retK p_slices_Index_Lstring_string_ a_slices_Index_Lstring_string_ hp0) [(0, (fun e hp ef => k0  hp ef))]) m = fun e hp ef => d_slices_Index_Lstring_string__l0 G K L hp0 k0 m (e 0).rd (e 1).rd (e 7).rd (e 8).rd hp ef := by
  intro m
  induction m with
  | zero => rfl
  | succ m ih =>
    show codeK G 19 hp0.length K p_slices_Index_Lstring_string_ L c_slices_Index_Lstring_string__l0b (loopK _ m) (retK p_slices_Index_Lstring_string_ a_slices_Index_Lstring_string_ hp0) [(0, (fun e hp ef => k0  hp ef))] = _
    rw [ih]
    kernel_rfl
theorem d_slices_Index_Lstring_string__l0_eq (G : GT) (K : KT) (L : Nat) (hp0 : HP) (k0 : HP → Eff → KR)  (zn : Cont) : codeK G 19 hp0.length K p_slices_Index_Lstring_string_ L c_slices_Index_Lstring_string__l0 zn (retK p_slices_Index_Lstring_string_ a_slices_Index_Lstring_string_ hp0) [(0, (fun e hp ef => k0  hp ef))] = fun e hp ef => d_slices_Index_Lstring_string__l0 G K L hp0 k0 L (e 0).rd (e 1).rd (e 7).rd (e 8).rd hp ef := d_slices_Index_Lstring_string__l0_lp G K L hp0 k0  L
def d_slices_Index_Lstring_string_ (G : GT) (K : KT) (L : Nat) (x0 x1 : AV) (hp0 : HP) : KR :=
  optK (lenVal hp0 .slice (AV.ro x0)) fun v0 =>
  d_slices_Index_Lstring_string__l0 G K L hp0 (d_slices_Index_Lstring_string__j1 G K L hp0 ) L (AV.ro x0) (AV.ro x1) v0 (.int .i64 0) hp0 none
theorem d_slices_Index_Lstring_string__eq (G : GT) (K : KT) (L : Nat) (x0 x1 : AV) (hp0 : HP) : fnK G K p_slices_Index_Lstring_string_ L a_slices_Index_Lstring_string_ [x0, x1] hp0 = d_slices_Index_Lstring_string_ G K L x0 x1 hp0 := by
  show codeK G 19 hp0.length K p_slices_Index_Lstring_string_ L c_slices_Index_Lstring_string_ (retK p_slices_Index_Lstring_string_ a_slices_Index_Lstring_string_ hp0) (retK p_slices_Index_Lstring_string_ a_slices_Index_Lstring_string_ hp0) [] (argE [x0, x1]) hp0 none = _
  simp only [c_slices_Index_Lstring_string_, codeK_seq, codeK_block, codeK_scope, codeK_cond]
  rw [d_slices_Index_Lstring_string__j1_eq G K L hp0  , d_slices_Index_Lstring_string__l0_eq G K L hp0 (d_slices_Index_Lstring_string__j1 G K L hp0 )  _]
  kernel_rfl
theorem slices_Index_Lstring_string__run {C : Cfg} (h : C.T F_slices_Index_Lstring_string_ = some a_slices_Index_Lstring_string_) {n : Nat} {x0 x1 : AV} {hp : HP} {r : AV × HP × Eff} (hr : d_slices_Index_Lstring_string_ C.G (evalCall C n) C.L x0 x1 hp = some r) : evalCall C (n + 1) F_slices_Index_Lstring_string_ [x0, x1] hp = some r := fnK_ok h (Nat.le_of_ble_eq_true rfl) ((d_slices_Index_Lstring_string__eq ..).trans hr)
end Go.Proofs.YtlmfmmclnboglaaGreat
