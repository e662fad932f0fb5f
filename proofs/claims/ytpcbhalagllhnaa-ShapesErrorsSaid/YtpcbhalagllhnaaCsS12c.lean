/- CsS12c: what each function does, by its own code. No condition beyond those of each statement. -/
import Derived.Test.YtpcbhalagllhnaaCsS12a
namespace Go.Proofs.Ytpcbhalagllhnaa
open Go Go.RowKit Go.Cs
set_option maxRecDepth 100000
set_option linter.all false
set_option linter.unusedVariables false

theorem c_SE_xb_0 (n : Nat) (l : Int) (j : Nat)  (w : World) (hp0 : 1 ≤ n) (hp1 : n ≤ 4096) (hp2 : ¬ (0 ≤ l ∧ l ≤ hgt n)) (hp3 : j < n) :
    Calls Try.prog 8 #[(vA [(vI n), (.int .i64 l), (vI j), (vI 0)])] w (Ret fun r w' => r = vT ∧ Ext w w') := by
  refine calls_of (n := 390) (σ := [(0, (vA [(vI n), (.int .i64 l), (vI j), (vI 0)]))]) Try.func8 rfl ?_
  have h5 := hgt_le n
  have hbg := bas_ge n (hgt n + 1)
  have hbs := bas_small (l := hgt n + 1) hp1 (by omega)
  refine wpC_seq (wpC_region (wpF_step (op_new (some 1) (Instr.box 58 (vA [(vI n), (.int .i64 l), (vI j), (vI 0)])) (vP w.heap.size 0) ([(vI n), (.int .i64 l), (vI j), (vI 0)]) 58 ?_)))
  intro w1 hBw1 hEw1
  have hzw1 := hEw1.size; have hlw1 := hBw1.lt
  refine wpF_run 1 [(2, vF)] (wpF_end (then_code (wpC_seq (wpC_drawM (Ext w1.drew) 12 [(32, 2, 0), (33, 2147483648, 1), (34, 2, 0), (35, 8589934592, 4), (36, 2, 0), (37, 34359738368, 16), (38, 2, 0), (39, 137438953472, 64), (4, 4294967296, 3), (5, 17179869184, 271), (6, 68719476736, 831), (7, 274877906944, 2047)] (fun hT15 => ?_)))))
  have hEw2 : Ext w1 w1.drew := Ext.drew w1
  generalize w1.drew = w2 at hEw2 ⊢
  have hzw2 := hEw2.size
  refine anyM_take hT15 0 1 (some 31) (vP w.heap.size 0) (yld_val (Instr.indexAt 58 (vP w.heap.size 0) (vI 0)) (fun w' hC => rn_ixa (E := 3) (sz := 1) (m := 4) (by omega))) (anyM_take hT15 1 3 (some 32) (vI n) (yld_val (Instr.loadAt 3 (vP w.heap.size 0)) (fun w' hC => rn_ld (((hBw1.ext hEw2).ext hC).cell rfl))) (anyM_take hT15 2 7 (some 33) (vP w.heap.size 1) (yld_val (Instr.indexAt 58 (vP w.heap.size 0) (vI 1)) (fun w' hC => rn_ixa (E := 3) (sz := 1) (m := 4) (by omega))) (anyM_take hT15 3 15 (some 34) (.int .i64 l) (yld_val (Instr.loadAt 3 (vP w.heap.size 1)) (fun w' hC => rn_ld (((hBw1.ext hEw2).ext hC).cell rfl))) (anyM_take hT15 4 31 (some 35) (vP w.heap.size 2) (yld_val (Instr.indexAt 58 (vP w.heap.size 0) (vI 2)) (fun w' hC => rn_ixa (E := 3) (sz := 1) (m := 4) (by omega))) (anyM_take hT15 5 63 (some 36) (vI j) (yld_val (Instr.loadAt 3 (vP w.heap.size 2)) (fun w' hC => rn_ld (((hBw1.ext hEw2).ext hC).cell rfl))) (anyM_take hT15 6 127 (some 37) (vP w.heap.size 3) (yld_val (Instr.indexAt 58 (vP w.heap.size 0) (vI 3)) (fun w' hC => rn_ixa (E := 3) (sz := 1) (m := 4) (by omega))) (anyM_take hT15 7 255 (some 38) (vI 0) (yld_val (Instr.loadAt 3 (vP w.heap.size 3)) (fun w' hC => rn_ld (((hBw1.ext hEw2).ext hC).cell rfl))) (anyM_run hT15 [(8, 3, (vI n)), (9, 4, (.int .i64 l)), (10, 5, (vI j)), (11, 6, (vI 0))] 4 4095 (anyM_done ?_)))))))))
  refine then_code (wpC_seq (wpC_region (wpF_run 1 [(39, (vI n))] (wpF_step (op_b (some 40) (decide (((n : Nat) : Int) ≥ ((1 : Nat) : Int))) true (cmpDT (by omega)) ?_)))))
  refine wpF_run 2 [(42, (vI n)), (41, vT)] (wpF_step (op_b (some 43) (decide (((n : Nat) : Int) ≤ ((4096 : Nat) : Int))) true (cmpDT (by omega)) ?_))
  refine wpF_run 2 [(7, vT), (44, vT)] (wpF_end (then_code (wpC_seq (wpC_region (wpF_run 5 [(49, (vI j)), (48, (.int .i64 l)), (47, (vI n)), (46, vT), (45, vT)] (wpF_step (op_call (some 50) (c_rIsBad n l ((j : Nat) : Int) _ (by omega) (by omega) (by (try simp only [Int.toNat_natCast]); omega)) ?_)))))))
  rintro _ _ ⟨rfl, rfl⟩
  refine wpF_run 2 [(8, vF), (51, vF)] (wpF_end (then_code (wpC_seq (wpC_region (wpF_run 1 [(53, (vI n))] (wpF_step (op_call (some 54) (c_Height n _ (by omega) (by omega)) ?_)))))))
  rintro _ w3 ⟨rfl, hEw3⟩
  have hzw3 := hEw3.size
  refine wpF_run 5 [(10, (vI 0)), (9, (vI (hgt n))), (56, (vI 0)), (55, (vI (hgt n))), (52, (.tuple #[(vI (hgt n)), (vI 0)]))] (wpF_end (then_code (wpC_seq (wpC_region (wpF_run 1 [(58, (vI n))] (wpF_step (op_call (some 59) (c_Total n _ (by omega) (by omega)) ?_)))))))
  rintro _ w4 ⟨rfl, hEw4⟩
  have hzw4 := hEw4.size
  refine wpF_run 5 [(12, (vI 0)), (11, (vI (tot n))), (61, (vI 0)), (60, (vI (tot n))), (57, (.tuple #[(vI (tot n)), (vI 0)]))] (wpF_end (then_code (wpC_seq (wpC_region (wpF_run 1 [(63, (vI n))] (wpF_step (op_call (some 64) (c_Sectors n _ (by omega) (by omega)) ?_)))))))
  rintro _ w5 ⟨rfl, hEw5⟩
  have hzw5 := hEw5.size
  refine wpF_run 5 [(14, (vI 0)), (13, (vI (bas n (hgt n + 1)))), (66, (vI 0)), (65, (vI (bas n (hgt n + 1)))), (62, (.tuple #[(vI (bas n (hgt n + 1))), (vI 0)]))] (wpF_end (then_code (wpC_seq (wpC_seq (wpC_region (wpF_run 18 [(84, (vI n)), (83, vF), (82, vF), (81, vF), (80, vT), (79, vT), (78, (vI 0)), (77, vF), (76, vF), (75, vF), (74, vT), (73, vT), (72, (vI 0)), (71, vF), (70, vF), (69, vT), (68, vT), (67, (vI 0))] (wpF_step (op_call (some 85) (c_Check n _ (by omega) (by omega)) ?_))))))))
  rintro _ _ ⟨rfl, rfl⟩
  refine wpF_run 21 [(106, vF), (105, vF), (104, undef), (103, undef), (102, vF), (101, vF), (100, vT), (99, vF), (98, vF), (97, vF), (96, (vI 0)), (95, (vI 0)), (94, vF), (93, vF), (92, vF), (91, (vI 0)), (90, (vI 0)), (89, vF), (88, vF), (87, vF), (86, (vI 0))] (wpF_end (then_code (wpC_false (wpC_skip (then_code (wpC_seq (wpC_region (wpF_run 2 [(109, (.int .i64 l)), (108, (vI n))] (wpF_step (op_call (some 110) (c_CountBad ((n : Nat) : Int) l _ (by (try simp only [Int.toNat_natCast]); omega)) ?_))))))))))
  rintro _ w6 ⟨rfl, hEw6⟩
  have hzw6 := hEw6.size
  refine wpF_run 5 [(16, (vI 1)), (15, (vI 0)), (112, (vI 1)), (111, (vI 0)), (107, (.tuple #[(vI 0), (vI 1)]))] (wpF_end (then_code (wpC_seq (wpC_seq (wpC_region (wpF_run 6 [(118, (.int .i64 l)), (117, (vI n)), (116, vT), (115, vT), (114, vF), (113, (vI 1))] (wpF_step (op_call (some 119) (c_rIsBad n l ((0 : Nat) : Int) _ (by omega) (by omega) (by (try simp only [Int.toNat_natCast]); omega)) ?_))))))))
  rintro _ _ ⟨rfl, rfl⟩
  refine wpF_run 14 [(133, vF), (132, vF), (131, vF), (130, vF), (129, (vI 0)), (128, vF), (127, vF), (126, (vI 1)), (125, vT), (124, vT), (123, (vI 1)), (122, vF), (121, vF), (120, vF)] (wpF_end (then_code (wpC_false (wpC_skip (then_code (wpC_seq (wpC_region (wpF_run 3 [(137, (vI j)), (136, (.int .i64 l)), (135, (vI n))] (wpF_step (op_call (some 138) (c_PartsBad ((n : Nat) : Int) l ((j : Nat) : Int) _ (by (try simp only [Int.toNat_natCast]); omega)) ?_))))))))))
  rintro _ w7 ⟨rfl, hEw7⟩
  have hzw7 := hEw7.size
  refine wpF_run 5 [(16, (vI 1)), (15, (vI 0)), (140, (vI 1)), (139, (vI 0)), (134, (.tuple #[(vI 0), (vI 1)]))] (wpF_end (then_code (wpC_seq (wpC_region (wpF_run 3 [(144, (vI j)), (143, (.int .i64 l)), (142, (vI n))] (wpF_step (op_call (some 145) (c_placeZ l ((j : Nat) : Int) _) ?_)))))))
  rintro _ w8 ⟨rfl, hEw8⟩
  have hzw8 := hEw8.size
  refine wpF_step (op_call (some 146) (c_BlocksBad ((n : Nat) : Int) l ((j : Nat) : Int) _ (by (try simp only [Int.toNat_natCast]); omega)) ?_)
  rintro _ w9 ⟨rfl, hEw9⟩
  have hzw9 := hEw9.size
  refine wpF_run 7 [(19, (vI 1)), (18, (vI 0)), (17, (vI 0)), (149, (vI 1)), (148, (vI 0)), (147, (vI 0)), (141, (.tuple #[(vI 0), (vI 0), (vI 1)]))] (wpF_end (then_code (wpC_seq (wpC_region (wpF_run 4 [(154, (vI 0)), (153, (vI j)), (152, (.int .i64 l)), (151, (vI n))] (wpF_step (op_call (some 155) (c_NodeBad ((n : Nat) : Int) l ((j : Nat) : Int) ((0 : Nat) : Int) _ (by (try simp only [Int.toNat_natCast]); omega)) ?_)))))))
  rintro _ w10 ⟨rfl, hEw10⟩
  have hzw10 := hEw10.size
  refine wpF_run 5 [(21, (vI 1)), (20, (vI 0)), (157, (vI 1)), (156, (vI 0)), (150, (.tuple #[(vI 0), (vI 1)]))] (wpF_end (then_code (wpC_seq (wpC_seq (wpC_region (wpF_run 24 [(181, vF), (180, vF), (179, vF), (178, undef), (177, undef), (176, undef), (175, undef), (174, undef), (173, undef), (172, vF), (171, vF), (170, vF), (169, (vI 1)), (168, vF), (167, vF), (166, vF), (165, vF), (164, vF), (163, (vI 1)), (162, vF), (161, vF), (160, vF), (159, vF), (158, (vI 1))] (wpF_end (then_code (wpC_false ?_)))))))))
  refine wpC_skip (then_code (wpC_seq (wpC_seq (wpC_region (wpF_run 34 [(215, vF), (214, vF), (213, vF), (212, vF), (211, (vI 0)), (210, vF), (209, vF), (208, (vI 1)), (207, vT), (206, vT), (205, (vI 1)), (204, vF), (203, vF), (202, vF), (201, vF), (200, (vI 0)), (199, vF), (198, vF), (197, vF), (196, (vI 0)), (195, vF), (194, vF), (193, vF), (192, (vI 0)), (191, vF), (190, vF), (189, vF), (188, (vI 1)), (187, vF), (186, vF), (185, (vI 1)), (184, vT), (183, vT), (182, (vI 1))] (wpF_end (then_code (wpC_false (wpC_skip ?_)))))))))
  refine then_code (wpC_seq (wpC_region (wpF_run 3 [(219, (vI j)), (218, (.int .i64 l)), (217, (vI n))] (wpF_step (op_call (some 220) (c_placeZ l ((j : Nat) : Int) _) ?_)))))
  rintro _ w11 ⟨rfl, hEw11⟩
  have hzw11 := hEw11.size
  refine wpF_step (op_call (some 221) (c_ParentBad ((n : Nat) : Int) l ((j : Nat) : Int) _ (by (try simp only [Int.toNat_natCast]); omega)) ?_)
  rintro _ w12 ⟨rfl, hEw12⟩
  have hzw12 := hEw12.size
  refine wpF_run 4 [(224, (vI 1)), (223, (vI 0)), (222, (vA [(vI 0), (vI 0)])), (216, (.tuple #[(vA [(vI 0), (vI 0)]), (vI 0), (vI 1)]))] (wpF_step (op_new (some 22) (Instr.alloc 45 true (.tuple #[])) (vP w12.heap.size 0) ([(vI 0), (vI 0)]) 45 ?_))
  intro w13 hBw13 hEw13
  have hzw13 := hEw13.size; have hlw13 := hBw13.lt
  refine wpF_step (op_store 45 w12.heap.size 0 45 (vA [(vI 0), (vI 0)]) ([(vI 0), (vI 0)]) ([(vI 0), (vI 0)]) hBw13 (by kernel_rfl) (by first | decide | (simp; done) | (simp; omega)) (by simp [Value.oneCell']) ?_)
  intro w14 hBw14 hCw14
  have hzw14 := hCw14.size
  rw [setFrom_all _ _ (by kernel_rfl)] at hBw14
  refine wpF_run 2 [(24, (vI 1)), (23, (vI 0))] (wpF_end (then_code (wpC_seq (wpC_region (wpF_run 3 [(228, (vI j)), (227, (.int .i64 l)), (226, (vI n))] (wpF_step (op_call (some 229) (c_placeZ l ((j : Nat) : Int) _) ?_)))))))
  rintro _ w15 ⟨rfl, hEw15⟩
  have hzw15 := hEw15.size
  refine wpF_run 1 [(230, (vI 0))] (wpF_step (op_call (some 231) (c_ChildBad ((n : Nat) : Int) l ((j : Nat) : Int) ((0 : Nat) : Int) _ (by (try simp only [Int.toNat_natCast]); omega)) ?_))
  rintro _ w16 ⟨rfl, hEw16⟩
  have hzw16 := hEw16.size
  refine wpF_run 3 [(233, (vI 1)), (232, (vA [(vI 0), (vI 0)])), (225, (.tuple #[(vA [(vI 0), (vI 0)]), (vI 1)]))] (wpF_step (op_new (some 25) (Instr.alloc 45 true (.tuple #[])) (vP w16.heap.size 0) ([(vI 0), (vI 0)]) 45 ?_))
  intro w17 hBw17 hEw17
  have hzw17 := hEw17.size; have hlw17 := hBw17.lt
  refine wpF_step (op_store 45 w16.heap.size 0 45 (vA [(vI 0), (vI 0)]) ([(vI 0), (vI 0)]) ([(vI 0), (vI 0)]) hBw17 (by kernel_rfl) (by first | decide | (simp; done) | (simp; omega)) (by simp [Value.oneCell']) ?_)
  intro w18 hBw18 hCw18
  have hzw18 := hCw18.size
  rw [setFrom_all _ _ (by kernel_rfl)] at hBw18
  refine wpF_run 1 [(26, (vI 1))] (wpF_end (then_code (wpC_seq (wpC_seq ?_))))
  refine wpC_drawM (Ext w18.drew) 36 [(235, 256, 0), (236, 27606985387162255149739023449108101809804435888681546220650096895197184, 1), (237, 55213970774324510299478046898216203619608871777363092441300193790394368, 2), (238, 110427941548649020598956093796432407239217743554726184882600387597565952, 4), (239, 331283824645947061796868281389297221717653230664178554647801162742366208, 12), (240, 552139707743245102994780468982162036196088717773630924413001937903943680, 20), (241, 883423532389192164791648750371459257913741948437809479060803100650504192, 32), (242, 883423532389192164791648750371459257913741948437809479060803100646309888, 32), (243, 6183964726724345153541541252600214805396193639064666353425621704524169216, 224), (244, 8061239733051378503723794847139565728462895279495011496429828293397577728, 292), (245, 14245204459775723657265336099739780533859088918559677849855449997921746944, 644), (246, 28269553036454149273332760011886696253239742350009903329945699220690305024, 1024), (247, 84808659109362447819998280035660088759719227050029709989837097662045749248, 3072), (248, 141458193123819395387262756153229913673437929493604242834611096490990370816, 5124), (249, 226266852233181843207261036188890002433157156543633952824448194153036120064, 8196), (250, 452312848583266388373324160190187140051835877600158453279131187530910662656, 17408), (251, 904625697166532776746648320380374280103671755200316906558262375061821325568, 32768), (252, 2713877091499598330239944961141122840311015265600950719674787125185463975936, 98304), (253, 4523128485832663883733241601901871400518358776001584532791311875309106626560, 163840), (254, 7237005577332262213973186563042994240829374041602535252466099000494570602560, 262144), (255, 21711016731996786641919559689128982722488122124807605757398297001483711807488, 786432), (256, 37089653583827843846612581135595345484250541963212993168888757377534674337792, 1343488), (257, 58800670315824630488532140824724328206738664088020598926287054379018386145280, 2392064), (258, 115792089237316195423570985008687907853269984665640564039457584007913129640000, 4194304), (259, 347376267711948586270712955026063723559809953996921692118372752023739388919808, 12582912), (260, 579865071883747509894601573363819913546453595083403137103846182414627469524992, 21004288), (261, 927241339595696096165314528389883637106263549080324829222218934438366858444800, 37781504), (262, 1852673427797059126777135760139006525652319754650249024631321344126610141347840, 67108864), (263, 5558020283391177380331407280417019576956959263950747073893964032379830222716928, 201326592), (264, 9263367138985295633885678800695032628261598773251245123156606720633050371194880, 335544320), (265, 14821387422376473014217086081112052205218558037201992197050570753012880627466240, 536870912), (266, 14821387422376473014217086081112052205218558037201992197050570753012880593911808, 536870912), (267, 103749711956635311099519602567784365436529906260413945379353995271090164157382656, 3758096384), (268, 135245160229185316254730910490147476372619342089468178798086458121242535419445248, 4898947072), (269, 238995776811517793887027259706252222183429352021637324494347011654707761398153216, 8657076224), (270, 474285302141744302987723501243906050941273960862218950622524822358787240826503168, 17179901952)] (fun hT198 => ?_)
  have hEw19 : Ext w18 w18.drew := Ext.drew w18
  generalize w18.drew = w19 at hEw19 ⊢
  have hzw19 := hEw19.size
  refine anyM_run hT198 [(0, 234, vF), (1, 235, vT), (2, 236, vT), (3, 237, (vI 1)), (4, 238, vF), (5, 239, vF)] 6 63 ?_
  have hK1 := (((((((((hBw14.ext hEw15)).ext hEw16)).ext hEw17)).chg hCw18 (fun hs => by have h : _ = _ := hs; omega))).ext hEw19)
  refine anyM_take hT198 6 127 (some 240) (vA [(vI 0), (vI 0)]) (yld_val (Instr.loadAt 45 (vP w12.heap.size 0)) (fun w' hC => rn_lda (vs := [(vI 0), (vI 0)]) ((hK1.ext hC).all))) (anyM_one 7 255 (op_call (some 241) (c_place 0 0 _) ?_))
  rintro _ w20 ⟨rfl, hEw20⟩
  have hzw20 := hEw20.size
  refine ⟨.inr hEw20, ?_⟩
  refine anyM_take (hw := show Ext w19 w20 from hEw20) hT198 8 511 (some 242) vF (yld_val (bo .neq 45 (.tmp 240) (.tmp 241) (vA [(vI 0), (vI 0)]) (vA [(vI 0), (vI 0)])) (fun w' hC => run_neqAgg (r := true) (T := 45) ((run_eq_flat (dd := 9998) (t := 45) [(vI 0), (vI 0)] [(vI 0), (vI 0)]).trans (congrArg (fun b => Result.ok b _) (show (eqvs [(vI 0), (vI 0)] [(vI 0), (vI 0)]) = true from by rfl))))) (anyM_run (hw := show Ext w19 w20 from hEw20) hT198 [(9, 243, vF), (10, 244, vF), (11, 245, (vI 0)), (12, 246, vF), (13, 247, vF), (14, 248, vF), (15, 249, vF), (16, 250, vF), (17, 251, vT), (18, 252, vT), (19, 253, undef), (20, 254, undef), (21, 255, vT), (22, 256, vT), (23, 257, undef), (24, 258, undef), (25, 259, vT), (26, 260, vT), (27, 261, (vI 1)), (28, 262, vF), (29, 263, vF)] 21 1073741823 (anyM_take (hw := show Ext w19 w20 from hEw20) hT198 30 2147483647 (some 264) (vA [(vI 0), (vI 0)]) (yld_val (Instr.loadAt 45 (vP w16.heap.size 0)) (fun w' hC => rn_lda (vs := [(vI 0), (vI 0)]) (((hBw18.ext hEw19).ext hC).all))) (anyM_one 31 4294967295 (op_call (some 265) (c_place 0 0 _) ?_))))
  rintro _ w21 ⟨rfl, hEw21⟩
  have hzw21 := hEw21.size
  refine ⟨.inr (hEw20.trans hEw21), ?_⟩
  refine anyM_take (hw := show Ext w19 w21 from (hEw20.trans hEw21)) hT198 32 8589934591 (some 266) vF (yld_val (bo .neq 45 (.tmp 264) (.tmp 265) (vA [(vI 0), (vI 0)]) (vA [(vI 0), (vI 0)])) (fun w' hC => run_neqAgg (r := true) (T := 45) ((run_eq_flat (dd := 9998) (t := 45) [(vI 0), (vI 0)] [(vI 0), (vI 0)]).trans (congrArg (fun b => Result.ok b _) (show (eqvs [(vI 0), (vI 0)] [(vI 0), (vI 0)]) = true from by rfl))))) (anyM_run (hw := show Ext w19 w21 from (hEw20.trans hEw21)) hT198 [(33, 267, vF), (34, 268, vF), (35, 269, vF)] 3 68719476735 (anyM_done (then_code (wpC_false (wpC_skip (then_code (wpC_seq (wpC_region (wpF_run 3 [(272, (vI j)), (271, vT), (270, vT)] ?_)))))))))
  refine wpF_step (op_b (some 273) (decide (((j : Nat) : Int) ≥ ((0 : Nat) : Int))) true (cmpDT (by omega)) ?_)
  refine wpF_run 4 [(277, (vI n)), (276, (vI j)), (275, vT), (274, vT)] (wpF_step (op_b (some 278) (decide (((j : Nat) : Int) < ((n : Nat) : Int))) true (cmpDT (by omega)) ?_))
  refine wpF_run 2 [(27, vT), (279, vT)] (wpF_end (then_code (wpC_seq (wpC_region (wpF_run 2 [(282, (vI j)), (281, (vI n))] (wpF_step (op_call (some 283) (c_Path n j _ (by omega) (by omega) (by omega)) ?_)))))))
  rintro _ w22 ⟨a1, rfl, hFz18_0, hEw22⟩
  have hzw22 := hEw22.size
  have hlea1 := hFz18_0.le
  refine wpF_run 5 [(16, (vI 0)), (28, (.slice a1 (hgt n + 1) (hgt n + 1))), (285, (vI 0)), (284, (.slice a1 (hgt n + 1) (hgt n + 1))), (280, (.tuple #[(.slice a1 (hgt n + 1) (hgt n + 1)), (vI 0)]))] (wpF_end (then_code (wpC_seq (wpC_region (wpF_run 2 [(288, (vI j)), (287, (vI n))] (wpF_step (op_call (some 289) (c_Group n j _ (by omega) (by omega) (by omega)) ?_)))))))
  rintro _ w23 ⟨rfl, hEw23⟩
  have hzw23 := hEw23.size
  refine wpF_run 5 [(19, (vI 0)), (292, (vI 0)), (291, (vI (j % 4))), (290, (vA [(vI 0), (vI (j / 4))])), (286, (.tuple #[(vA [(vI 0), (vI (j / 4))]), (vI (j % 4)), (vI 0)]))] (wpF_end (then_code (wpC_seq (wpC_region (wpF_run 3 [(296, (vI 0)), (295, (vI j)), (294, (vI n))] (wpF_step (op_call (some 297) (c_Data n j 0 _ (by omega) (by omega) (by omega) (by omega)) ?_)))))))
  rintro _ w24 ⟨rfl, hEw24⟩
  have hzw24 := hEw24.size
  refine wpF_run 5 [(21, (vI 0)), (20, (vI (2 * j + 0))), (299, (vI 0)), (298, (vI (2 * j + 0))), (293, (.tuple #[(vI (2 * j + 0)), (vI 0)]))] (wpF_end (then_code (wpC_seq (wpC_seq (wpC_region (wpF_run 54 [(353, vF), (352, vF), (351, undef), (350, undef), (349, undef), (348, undef), (347, undef), (346, undef), (345, vF), (344, vF), (343, (vI 0)), (342, vF), (341, vF), (340, vF), (339, undef), (338, undef), (337, undef), (336, undef), (335, undef), (334, undef), (333, undef), (332, undef), (331, undef), (330, undef), (329, undef), (328, undef), (327, vF), (326, vF), (325, (vI 0)), (324, vF), (323, vF), (322, vF), (321, vT), (320, vT), (319, undef), (318, undef), (317, vT), (316, vT), (315, (vI 0)), (314, vT), (313, vT), (312, vT), (311, (vI 0)), (310, vF), (309, vF), (308, vF), (307, vT), (306, vT), (305, (vI 0)), (304, vF), (303, vF), (302, vT), (301, vT), (300, (vI 0))] (wpF_end (then_code (wpC_false ?_)))))))))
  refine wpC_skip (then_code (wpC_seq (wpC_region (wpF_run 2 [(356, (vI j)), (355, (vI n))] (wpF_step (op_call (some 357) (c_OfAny n j _ (by omega) (by omega) (by omega)) ?_))))))
  rintro _ w25 ⟨a2, a3, a4, a5, rfl, hEw25⟩
  have hzw25 := hEw25.size
  refine wpF_run 3 [(359, (vI 0)), (358, (vA [(.bool a2), (.int .i64 a3), (.int .i64 a4), (.int .i64 a5)])), (354, (.tuple #[(vA [(.bool a2), (.int .i64 a3), (.int .i64 a4), (.int .i64 a5)]), (vI 0)]))] (wpF_step (op_new (some 29) (Instr.alloc 31 true (.tuple #[])) (vP w25.heap.size 0) ([vF, (vI 0), (vI 0), (vI 0)]) 31 ?_))
  intro w26 hBw26 hEw26
  have hzw26 := hEw26.size; have hlw26 := hBw26.lt
  refine wpF_step (op_store 31 w25.heap.size 0 31 (vA [(.bool a2), (.int .i64 a3), (.int .i64 a4), (.int .i64 a5)]) ([vF, (vI 0), (vI 0), (vI 0)]) ([(.bool a2), (.int .i64 a3), (.int .i64 a4), (.int .i64 a5)]) hBw26 (by kernel_rfl) (by first | decide | (simp; done) | (simp; omega)) (by simp [Value.oneCell']) ?_)
  intro w27 hBw27 hCw27
  have hzw27 := hCw27.size
  rw [setFrom_all _ _ (by kernel_rfl)] at hBw27
  refine wpF_run 1 [(16, (vI 0))] (wpF_end (then_code (wpC_seq (wpC_region (wpF_run 3 [(362, (vI j)), (361, vT), (360, vT)] (wpF_step (op_b (some 363) (decide (((j : Nat) : Int) ≥ ((0 : Nat) : Int))) true (cmpDT (by omega)) ?_)))))))
  refine wpF_run 4 [(367, (vI n)), (366, (vI j)), (365, vT), (364, vT)] (wpF_step (op_call (some 368) (c_rSectors n _ (by omega) (by omega)) ?_))
  rintro _ _ ⟨rfl, rfl⟩
  refine wpF_step (op_b (some 369) (decide (((j : Nat) : Int) < ((bas n (hgt n + 1) : Nat) : Int))) true (cmpDT (by omega)) ?_)
  refine wpF_run 2 [(30, vT), (370, vT)] (wpF_end (then_code (wpC_seq (wpC_region (wpF_run 17 [(387, vT), (386, vT), (385, vT), (384, undef), (383, undef), (382, undef), (381, undef), (380, undef), (379, undef), (378, undef), (377, vT), (376, vT), (375, vT), (374, vT), (373, vT), (372, vT), (371, (vI 0))] (wpF_step (op_call (some 388) (c_lives12 _) ?_)))))))
  rintro _ w28 ⟨rfl, hEw28⟩
  have hzw28 := hEw28.size
  refine wpF_run 2 [(2, vT), (389, vT)] (wpF_end (then_code (wpC_ret (body_rets vT ?_))))
  have hX1 : Ext w w28 := ((Ext.own (((((((((Ext.own ((((Ext.own ((((((((((((hEw1.trans hEw2).trans hEw3).trans hEw4).trans hEw5).trans hEw6).trans hEw7).trans hEw8).trans hEw9).trans hEw10).trans hEw11).trans hEw12).trans hEw13) hCw14 (by omega)).trans hEw15).trans hEw16).trans hEw17) hCw18 (by omega)).trans hEw19).trans hEw20).trans hEw21).trans hEw22).trans hEw23).trans hEw24).trans hEw25).trans hEw26) hCw27 (by omega)).trans hEw28)
  exact ⟨rfl, hX1⟩

theorem c_SE_xb_1 (n : Nat) (l : Int) (j : Nat)  (w : World) (hp0 : 1 ≤ n) (hp1 : n ≤ 4096) (hp2 : ¬ (0 ≤ l ∧ l ≤ hgt n)) (hp3 : j < n) :
    Calls Try.prog 8 #[(vA [(vI n), (.int .i64 l), (vI j), (vI 1)])] w (Ret fun r w' => r = vT ∧ Ext w w') := by
  refine calls_of (n := 390) (σ := [(0, (vA [(vI n), (.int .i64 l), (vI j), (vI 1)]))]) Try.func8 rfl ?_
  have h5 := hgt_le n
  have hbg := bas_ge n (hgt n + 1)
  have hbs := bas_small (l := hgt n + 1) hp1 (by omega)
  refine wpC_seq (wpC_region (wpF_step (op_new (some 1) (Instr.box 58 (vA [(vI n), (.int .i64 l), (vI j), (vI 1)])) (vP w.heap.size 0) ([(vI n), (.int .i64 l), (vI j), (vI 1)]) 58 ?_)))
  intro w1 hBw1 hEw1
  have hzw1 := hEw1.size; have hlw1 := hBw1.lt
  refine wpF_run 1 [(2, vF)] (wpF_end (then_code (wpC_seq (wpC_drawM (Ext w1.drew) 12 [(32, 2, 0), (33, 2147483648, 1), (34, 2, 0), (35, 8589934592, 4), (36, 2, 0), (37, 34359738368, 16), (38, 2, 0), (39, 137438953472, 64), (4, 4294967296, 3), (5, 17179869184, 271), (6, 68719476736, 831), (7, 274877906944, 2047)] (fun hT139 => ?_)))))
  have hEw2 : Ext w1 w1.drew := Ext.drew w1
  generalize w1.drew = w2 at hEw2 ⊢
  have hzw2 := hEw2.size
  refine anyM_take hT139 0 1 (some 31) (vP w.heap.size 0) (yld_val (Instr.indexAt 58 (vP w.heap.size 0) (vI 0)) (fun w' hC => rn_ixa (E := 3) (sz := 1) (m := 4) (by omega))) (anyM_take hT139 1 3 (some 32) (vI n) (yld_val (Instr.loadAt 3 (vP w.heap.size 0)) (fun w' hC => rn_ld (((hBw1.ext hEw2).ext hC).cell rfl))) (anyM_take hT139 2 7 (some 33) (vP w.heap.size 1) (yld_val (Instr.indexAt 58 (vP w.heap.size 0) (vI 1)) (fun w' hC => rn_ixa (E := 3) (sz := 1) (m := 4) (by omega))) (anyM_take hT139 3 15 (some 34) (.int .i64 l) (yld_val (Instr.loadAt 3 (vP w.heap.size 1)) (fun w' hC => rn_ld (((hBw1.ext hEw2).ext hC).cell rfl))) (anyM_take hT139 4 31 (some 35) (vP w.heap.size 2) (yld_val (Instr.indexAt 58 (vP w.heap.size 0) (vI 2)) (fun w' hC => rn_ixa (E := 3) (sz := 1) (m := 4) (by omega))) (anyM_take hT139 5 63 (some 36) (vI j) (yld_val (Instr.loadAt 3 (vP w.heap.size 2)) (fun w' hC => rn_ld (((hBw1.ext hEw2).ext hC).cell rfl))) (anyM_take hT139 6 127 (some 37) (vP w.heap.size 3) (yld_val (Instr.indexAt 58 (vP w.heap.size 0) (vI 3)) (fun w' hC => rn_ixa (E := 3) (sz := 1) (m := 4) (by omega))) (anyM_take hT139 7 255 (some 38) (vI 1) (yld_val (Instr.loadAt 3 (vP w.heap.size 3)) (fun w' hC => rn_ld (((hBw1.ext hEw2).ext hC).cell rfl))) (anyM_run hT139 [(8, 3, (vI n)), (9, 4, (.int .i64 l)), (10, 5, (vI j)), (11, 6, (vI 1))] 4 4095 (anyM_done ?_)))))))))
  refine then_code (wpC_seq (wpC_region (wpF_run 1 [(39, (vI n))] (wpF_step (op_b (some 40) (decide (((n : Nat) : Int) ≥ ((1 : Nat) : Int))) true (cmpDT (by omega)) ?_)))))
  refine wpF_run 2 [(42, (vI n)), (41, vT)] (wpF_step (op_b (some 43) (decide (((n : Nat) : Int) ≤ ((4096 : Nat) : Int))) true (cmpDT (by omega)) ?_))
  refine wpF_run 2 [(7, vT), (44, vT)] (wpF_end (then_code (wpC_seq (wpC_region (wpF_run 5 [(49, (vI j)), (48, (.int .i64 l)), (47, (vI n)), (46, vT), (45, vT)] (wpF_step (op_call (some 50) (c_rIsBad n l ((j : Nat) : Int) _ (by omega) (by omega) (by (try simp only [Int.toNat_natCast]); omega)) ?_)))))))
  rintro _ _ ⟨rfl, rfl⟩
  refine wpF_run 2 [(8, vF), (51, vF)] (wpF_end (then_code (wpC_seq (wpC_region (wpF_run 1 [(53, (vI n))] (wpF_step (op_call (some 54) (c_Height n _ (by omega) (by omega)) ?_)))))))
  rintro _ w3 ⟨rfl, hEw3⟩
  have hzw3 := hEw3.size
  refine wpF_run 5 [(10, (vI 0)), (9, (vI (hgt n))), (56, (vI 0)), (55, (vI (hgt n))), (52, (.tuple #[(vI (hgt n)), (vI 0)]))] (wpF_end (then_code (wpC_seq (wpC_region (wpF_run 1 [(58, (vI n))] (wpF_step (op_call (some 59) (c_Total n _ (by omega) (by omega)) ?_)))))))
  rintro _ w4 ⟨rfl, hEw4⟩
  have hzw4 := hEw4.size
  refine wpF_run 5 [(12, (vI 0)), (11, (vI (tot n))), (61, (vI 0)), (60, (vI (tot n))), (57, (.tuple #[(vI (tot n)), (vI 0)]))] (wpF_end (then_code (wpC_seq (wpC_region (wpF_run 1 [(63, (vI n))] (wpF_step (op_call (some 64) (c_Sectors n _ (by omega) (by omega)) ?_)))))))
  rintro _ w5 ⟨rfl, hEw5⟩
  have hzw5 := hEw5.size
  refine wpF_run 5 [(14, (vI 0)), (13, (vI (bas n (hgt n + 1)))), (66, (vI 0)), (65, (vI (bas n (hgt n + 1)))), (62, (.tuple #[(vI (bas n (hgt n + 1))), (vI 0)]))] (wpF_end (then_code (wpC_seq (wpC_seq (wpC_region (wpF_run 18 [(84, (vI n)), (83, vF), (82, vF), (81, vF), (80, vT), (79, vT), (78, (vI 0)), (77, vF), (76, vF), (75, vF), (74, vT), (73, vT), (72, (vI 0)), (71, vF), (70, vF), (69, vT), (68, vT), (67, (vI 0))] (wpF_step (op_call (some 85) (c_Check n _ (by omega) (by omega)) ?_))))))))
  rintro _ _ ⟨rfl, rfl⟩
  refine wpF_run 21 [(106, vF), (105, vF), (104, undef), (103, undef), (102, vF), (101, vF), (100, vT), (99, vF), (98, vF), (97, vF), (96, (vI 0)), (95, (vI 0)), (94, vF), (93, vF), (92, vF), (91, (vI 0)), (90, (vI 0)), (89, vF), (88, vF), (87, vF), (86, (vI 0))] (wpF_end (then_code (wpC_false (wpC_skip (then_code (wpC_seq (wpC_region (wpF_run 2 [(109, (.int .i64 l)), (108, (vI n))] (wpF_step (op_call (some 110) (c_CountBad ((n : Nat) : Int) l _ (by (try simp only [Int.toNat_natCast]); omega)) ?_))))))))))
  rintro _ w6 ⟨rfl, hEw6⟩
  have hzw6 := hEw6.size
  refine wpF_run 5 [(16, (vI 1)), (15, (vI 0)), (112, (vI 1)), (111, (vI 0)), (107, (.tuple #[(vI 0), (vI 1)]))] (wpF_end (then_code (wpC_seq (wpC_seq (wpC_region (wpF_run 6 [(118, (.int .i64 l)), (117, (vI n)), (116, vT), (115, vT), (114, vF), (113, (vI 1))] (wpF_step (op_call (some 119) (c_rIsBad n l ((0 : Nat) : Int) _ (by omega) (by omega) (by (try simp only [Int.toNat_natCast]); omega)) ?_))))))))
  rintro _ _ ⟨rfl, rfl⟩
  refine wpF_run 14 [(133, vF), (132, vF), (131, vF), (130, vF), (129, (vI 0)), (128, vF), (127, vF), (126, (vI 1)), (125, vT), (124, vT), (123, (vI 1)), (122, vF), (121, vF), (120, vF)] (wpF_end (then_code (wpC_false (wpC_skip (then_code (wpC_seq (wpC_region (wpF_run 3 [(137, (vI j)), (136, (.int .i64 l)), (135, (vI n))] (wpF_step (op_call (some 138) (c_PartsBad ((n : Nat) : Int) l ((j : Nat) : Int) _ (by (try simp only [Int.toNat_natCast]); omega)) ?_))))))))))
  rintro _ w7 ⟨rfl, hEw7⟩
  have hzw7 := hEw7.size
  refine wpF_run 5 [(16, (vI 1)), (15, (vI 0)), (140, (vI 1)), (139, (vI 0)), (134, (.tuple #[(vI 0), (vI 1)]))] (wpF_end (then_code (wpC_seq (wpC_region (wpF_run 3 [(144, (vI j)), (143, (.int .i64 l)), (142, (vI n))] (wpF_step (op_call (some 145) (c_placeZ l ((j : Nat) : Int) _) ?_)))))))
  rintro _ w8 ⟨rfl, hEw8⟩
  have hzw8 := hEw8.size
  refine wpF_step (op_call (some 146) (c_BlocksBad ((n : Nat) : Int) l ((j : Nat) : Int) _ (by (try simp only [Int.toNat_natCast]); omega)) ?_)
  rintro _ w9 ⟨rfl, hEw9⟩
  have hzw9 := hEw9.size
  refine wpF_run 7 [(19, (vI 1)), (18, (vI 0)), (17, (vI 0)), (149, (vI 1)), (148, (vI 0)), (147, (vI 0)), (141, (.tuple #[(vI 0), (vI 0), (vI 1)]))] (wpF_end (then_code (wpC_seq (wpC_region (wpF_run 4 [(154, (vI 1)), (153, (vI j)), (152, (.int .i64 l)), (151, (vI n))] (wpF_step (op_call (some 155) (c_NodeBad ((n : Nat) : Int) l ((j : Nat) : Int) ((1 : Nat) : Int) _ (by (try simp only [Int.toNat_natCast]); omega)) ?_)))))))
  rintro _ w10 ⟨rfl, hEw10⟩
  have hzw10 := hEw10.size
  refine wpF_run 5 [(21, (vI 1)), (20, (vI 0)), (157, (vI 1)), (156, (vI 0)), (150, (.tuple #[(vI 0), (vI 1)]))] (wpF_end (then_code (wpC_seq (wpC_seq (wpC_region (wpF_run 24 [(181, vF), (180, vF), (179, vF), (178, undef), (177, undef), (176, undef), (175, undef), (174, undef), (173, undef), (172, vF), (171, vF), (170, vF), (169, (vI 1)), (168, vF), (167, vF), (166, vF), (165, vF), (164, vF), (163, (vI 1)), (162, vF), (161, vF), (160, vF), (159, vF), (158, (vI 1))] (wpF_end (then_code (wpC_false ?_)))))))))
  refine wpC_skip (then_code (wpC_seq (wpC_seq (wpC_region (wpF_run 34 [(215, vF), (214, vF), (213, vF), (212, vF), (211, (vI 0)), (210, vF), (209, vF), (208, (vI 1)), (207, vT), (206, vT), (205, (vI 1)), (204, vF), (203, vF), (202, vF), (201, vF), (200, (vI 0)), (199, vF), (198, vF), (197, vF), (196, (vI 0)), (195, vF), (194, vF), (193, vF), (192, (vI 0)), (191, vF), (190, vF), (189, vF), (188, (vI 1)), (187, vF), (186, vF), (185, (vI 1)), (184, vT), (183, vT), (182, (vI 1))] (wpF_end (then_code (wpC_false (wpC_skip ?_)))))))))
  refine then_code (wpC_seq (wpC_region (wpF_run 3 [(219, (vI j)), (218, (.int .i64 l)), (217, (vI n))] (wpF_step (op_call (some 220) (c_placeZ l ((j : Nat) : Int) _) ?_)))))
  rintro _ w11 ⟨rfl, hEw11⟩
  have hzw11 := hEw11.size
  refine wpF_step (op_call (some 221) (c_ParentBad ((n : Nat) : Int) l ((j : Nat) : Int) _ (by (try simp only [Int.toNat_natCast]); omega)) ?_)
  rintro _ w12 ⟨rfl, hEw12⟩
  have hzw12 := hEw12.size
  refine wpF_run 4 [(224, (vI 1)), (223, (vI 0)), (222, (vA [(vI 0), (vI 0)])), (216, (.tuple #[(vA [(vI 0), (vI 0)]), (vI 0), (vI 1)]))] (wpF_step (op_new (some 22) (Instr.alloc 45 true (.tuple #[])) (vP w12.heap.size 0) ([(vI 0), (vI 0)]) 45 ?_))
  intro w13 hBw13 hEw13
  have hzw13 := hEw13.size; have hlw13 := hBw13.lt
  refine wpF_step (op_store 45 w12.heap.size 0 45 (vA [(vI 0), (vI 0)]) ([(vI 0), (vI 0)]) ([(vI 0), (vI 0)]) hBw13 (by kernel_rfl) (by first | decide | (simp; done) | (simp; omega)) (by simp [Value.oneCell']) ?_)
  intro w14 hBw14 hCw14
  have hzw14 := hCw14.size
  rw [setFrom_all _ _ (by kernel_rfl)] at hBw14
  refine wpF_run 2 [(24, (vI 1)), (23, (vI 0))] (wpF_end (then_code (wpC_seq (wpC_region (wpF_run 3 [(228, (vI j)), (227, (.int .i64 l)), (226, (vI n))] (wpF_step (op_call (some 229) (c_placeZ l ((j : Nat) : Int) _) ?_)))))))
  rintro _ w15 ⟨rfl, hEw15⟩
  have hzw15 := hEw15.size
  refine wpF_run 1 [(230, (vI 1))] (wpF_step (op_call (some 231) (c_ChildBad ((n : Nat) : Int) l ((j : Nat) : Int) ((1 : Nat) : Int) _ (by (try simp only [Int.toNat_natCast]); omega)) ?_))
  rintro _ w16 ⟨rfl, hEw16⟩
  have hzw16 := hEw16.size
  refine wpF_run 3 [(233, (vI 1)), (232, (vA [(vI 0), (vI 0)])), (225, (.tuple #[(vA [(vI 0), (vI 0)]), (vI 1)]))] (wpF_step (op_new (some 25) (Instr.alloc 45 true (.tuple #[])) (vP w16.heap.size 0) ([(vI 0), (vI 0)]) 45 ?_))
  intro w17 hBw17 hEw17
  have hzw17 := hEw17.size; have hlw17 := hBw17.lt
  refine wpF_step (op_store 45 w16.heap.size 0 45 (vA [(vI 0), (vI 0)]) ([(vI 0), (vI 0)]) ([(vI 0), (vI 0)]) hBw17 (by kernel_rfl) (by first | decide | (simp; done) | (simp; omega)) (by simp [Value.oneCell']) ?_)
  intro w18 hBw18 hCw18
  have hzw18 := hCw18.size
  rw [setFrom_all _ _ (by kernel_rfl)] at hBw18
  refine wpF_run 1 [(26, (vI 1))] (wpF_end (then_code (wpC_seq (wpC_seq ?_))))
  refine wpC_drawM (Ext w18.drew) 36 [(235, 256, 0), (236, 27606985387162255149739023449108101809804435888681546220650096895197184, 1), (237, 55213970774324510299478046898216203619608871777363092441300193790394368, 2), (238, 110427941548649020598956093796432407239217743554726184882600387597565952, 4), (239, 331283824645947061796868281389297221717653230664178554647801162742366208, 12), (240, 552139707743245102994780468982162036196088717773630924413001937903943680, 20), (241, 883423532389192164791648750371459257913741948437809479060803100650504192, 32), (242, 883423532389192164791648750371459257913741948437809479060803100646309888, 32), (243, 6183964726724345153541541252600214805396193639064666353425621704524169216, 224), (244, 8061239733051378503723794847139565728462895279495011496429828293397577728, 292), (245, 14245204459775723657265336099739780533859088918559677849855449997921746944, 644), (246, 28269553036454149273332760011886696253239742350009903329945699220690305024, 1024), (247, 84808659109362447819998280035660088759719227050029709989837097662045749248, 3072), (248, 141458193123819395387262756153229913673437929493604242834611096490990370816, 5124), (249, 226266852233181843207261036188890002433157156543633952824448194153036120064, 8196), (250, 452312848583266388373324160190187140051835877600158453279131187530910662656, 17408), (251, 904625697166532776746648320380374280103671755200316906558262375061821325568, 32768), (252, 2713877091499598330239944961141122840311015265600950719674787125185463975936, 98304), (253, 4523128485832663883733241601901871400518358776001584532791311875309106626560, 163840), (254, 7237005577332262213973186563042994240829374041602535252466099000494570602560, 262144), (255, 21711016731996786641919559689128982722488122124807605757398297001483711807488, 786432), (256, 37089653583827843846612581135595345484250541963212993168888757377534674337792, 1343488), (257, 58800670315824630488532140824724328206738664088020598926287054379018386145280, 2392064), (258, 115792089237316195423570985008687907853269984665640564039457584007913129640000, 4194304), (259, 347376267711948586270712955026063723559809953996921692118372752023739388919808, 12582912), (260, 579865071883747509894601573363819913546453595083403137103846182414627469524992, 21004288), (261, 927241339595696096165314528389883637106263549080324829222218934438366858444800, 37781504), (262, 1852673427797059126777135760139006525652319754650249024631321344126610141347840, 67108864), (263, 5558020283391177380331407280417019576956959263950747073893964032379830222716928, 201326592), (264, 9263367138985295633885678800695032628261598773251245123156606720633050371194880, 335544320), (265, 14821387422376473014217086081112052205218558037201992197050570753012880627466240, 536870912), (266, 14821387422376473014217086081112052205218558037201992197050570753012880593911808, 536870912), (267, 103749711956635311099519602567784365436529906260413945379353995271090164157382656, 3758096384), (268, 135245160229185316254730910490147476372619342089468178798086458121242535419445248, 4898947072), (269, 238995776811517793887027259706252222183429352021637324494347011654707761398153216, 8657076224), (270, 474285302141744302987723501243906050941273960862218950622524822358787240826503168, 17179901952)] (fun hT322 => ?_)
  have hEw19 : Ext w18 w18.drew := Ext.drew w18
  generalize w18.drew = w19 at hEw19 ⊢
  have hzw19 := hEw19.size
  refine anyM_run hT322 [(0, 234, vF), (1, 235, vT), (2, 236, vT), (3, 237, (vI 1)), (4, 238, vF), (5, 239, vF)] 6 63 ?_
  have hK1 := (((((((((hBw14.ext hEw15)).ext hEw16)).ext hEw17)).chg hCw18 (fun hs => by have h : _ = _ := hs; omega))).ext hEw19)
  refine anyM_take hT322 6 127 (some 240) (vA [(vI 0), (vI 0)]) (yld_val (Instr.loadAt 45 (vP w12.heap.size 0)) (fun w' hC => rn_lda (vs := [(vI 0), (vI 0)]) ((hK1.ext hC).all))) (anyM_one 7 255 (op_call (some 241) (c_place 0 0 _) ?_))
  rintro _ w20 ⟨rfl, hEw20⟩
  have hzw20 := hEw20.size
  refine ⟨.inr hEw20, ?_⟩
  refine anyM_take (hw := show Ext w19 w20 from hEw20) hT322 8 511 (some 242) vF (yld_val (bo .neq 45 (.tmp 240) (.tmp 241) (vA [(vI 0), (vI 0)]) (vA [(vI 0), (vI 0)])) (fun w' hC => run_neqAgg (r := true) (T := 45) ((run_eq_flat (dd := 9998) (t := 45) [(vI 0), (vI 0)] [(vI 0), (vI 0)]).trans (congrArg (fun b => Result.ok b _) (show (eqvs [(vI 0), (vI 0)] [(vI 0), (vI 0)]) = true from by rfl))))) (anyM_run (hw := show Ext w19 w20 from hEw20) hT322 [(9, 243, vF), (10, 244, vF), (11, 245, (vI 0)), (12, 246, vF), (13, 247, vF), (14, 248, vF), (15, 249, vF), (16, 250, vF), (17, 251, vT), (18, 252, vT), (19, 253, undef), (20, 254, undef), (21, 255, vT), (22, 256, vT), (23, 257, undef), (24, 258, undef), (25, 259, vT), (26, 260, vT), (27, 261, (vI 1)), (28, 262, vF), (29, 263, vF)] 21 1073741823 (anyM_take (hw := show Ext w19 w20 from hEw20) hT322 30 2147483647 (some 264) (vA [(vI 0), (vI 0)]) (yld_val (Instr.loadAt 45 (vP w16.heap.size 0)) (fun w' hC => rn_lda (vs := [(vI 0), (vI 0)]) (((hBw18.ext hEw19).ext hC).all))) (anyM_one 31 4294967295 (op_call (some 265) (c_place 0 0 _) ?_))))
  rintro _ w21 ⟨rfl, hEw21⟩
  have hzw21 := hEw21.size
  refine ⟨.inr (hEw20.trans hEw21), ?_⟩
  refine anyM_take (hw := show Ext w19 w21 from (hEw20.trans hEw21)) hT322 32 8589934591 (some 266) vF (yld_val (bo .neq 45 (.tmp 264) (.tmp 265) (vA [(vI 0), (vI 0)]) (vA [(vI 0), (vI 0)])) (fun w' hC => run_neqAgg (r := true) (T := 45) ((run_eq_flat (dd := 9998) (t := 45) [(vI 0), (vI 0)] [(vI 0), (vI 0)]).trans (congrArg (fun b => Result.ok b _) (show (eqvs [(vI 0), (vI 0)] [(vI 0), (vI 0)]) = true from by rfl))))) (anyM_run (hw := show Ext w19 w21 from (hEw20.trans hEw21)) hT322 [(33, 267, vF), (34, 268, vF), (35, 269, vF)] 3 68719476735 (anyM_done (then_code (wpC_false (wpC_skip (then_code (wpC_seq (wpC_region (wpF_run 3 [(272, (vI j)), (271, vT), (270, vT)] ?_)))))))))
  refine wpF_step (op_b (some 273) (decide (((j : Nat) : Int) ≥ ((0 : Nat) : Int))) true (cmpDT (by omega)) ?_)
  refine wpF_run 4 [(277, (vI n)), (276, (vI j)), (275, vT), (274, vT)] (wpF_step (op_b (some 278) (decide (((j : Nat) : Int) < ((n : Nat) : Int))) true (cmpDT (by omega)) ?_))
  refine wpF_run 2 [(27, vT), (279, vT)] (wpF_end (then_code (wpC_seq (wpC_region (wpF_run 2 [(282, (vI j)), (281, (vI n))] (wpF_step (op_call (some 283) (c_Path n j _ (by omega) (by omega) (by omega)) ?_)))))))
  rintro _ w22 ⟨a1, rfl, hFz18_0, hEw22⟩
  have hzw22 := hEw22.size
  have hlea1 := hFz18_0.le
  refine wpF_run 5 [(16, (vI 0)), (28, (.slice a1 (hgt n + 1) (hgt n + 1))), (285, (vI 0)), (284, (.slice a1 (hgt n + 1) (hgt n + 1))), (280, (.tuple #[(.slice a1 (hgt n + 1) (hgt n + 1)), (vI 0)]))] (wpF_end (then_code (wpC_seq (wpC_region (wpF_run 2 [(288, (vI j)), (287, (vI n))] (wpF_step (op_call (some 289) (c_Group n j _ (by omega) (by omega) (by omega)) ?_)))))))
  rintro _ w23 ⟨rfl, hEw23⟩
  have hzw23 := hEw23.size
  refine wpF_run 5 [(19, (vI 0)), (292, (vI 0)), (291, (vI (j % 4))), (290, (vA [(vI 0), (vI (j / 4))])), (286, (.tuple #[(vA [(vI 0), (vI (j / 4))]), (vI (j % 4)), (vI 0)]))] (wpF_end (then_code (wpC_seq (wpC_region (wpF_run 3 [(296, (vI 1)), (295, (vI j)), (294, (vI n))] (wpF_step (op_call (some 297) (c_Data n j 1 _ (by omega) (by omega) (by omega) (by omega)) ?_)))))))
  rintro _ w24 ⟨rfl, hEw24⟩
  have hzw24 := hEw24.size
  refine wpF_run 5 [(21, (vI 0)), (20, (vI (2 * j + 1))), (299, (vI 0)), (298, (vI (2 * j + 1))), (293, (.tuple #[(vI (2 * j + 1)), (vI 0)]))] (wpF_end (then_code (wpC_seq (wpC_seq (wpC_region (wpF_run 54 [(353, vF), (352, vF), (351, undef), (350, undef), (349, undef), (348, undef), (347, undef), (346, undef), (345, vF), (344, vF), (343, (vI 0)), (342, vF), (341, vF), (340, vF), (339, undef), (338, undef), (337, undef), (336, undef), (335, undef), (334, undef), (333, undef), (332, undef), (331, undef), (330, undef), (329, undef), (328, undef), (327, vF), (326, vF), (325, (vI 0)), (324, vF), (323, vF), (322, vF), (321, vT), (320, vT), (319, vT), (318, (vI 1)), (317, vF), (316, vF), (315, (vI 1)), (314, vT), (313, vT), (312, vT), (311, (vI 0)), (310, vF), (309, vF), (308, vF), (307, vT), (306, vT), (305, (vI 0)), (304, vF), (303, vF), (302, vT), (301, vT), (300, (vI 0))] (wpF_end (then_code (wpC_false ?_)))))))))
  refine wpC_skip (then_code (wpC_seq (wpC_region (wpF_run 2 [(356, (vI j)), (355, (vI n))] (wpF_step (op_call (some 357) (c_OfAny n j _ (by omega) (by omega) (by omega)) ?_))))))
  rintro _ w25 ⟨a2, a3, a4, a5, rfl, hEw25⟩
  have hzw25 := hEw25.size
  refine wpF_run 3 [(359, (vI 0)), (358, (vA [(.bool a2), (.int .i64 a3), (.int .i64 a4), (.int .i64 a5)])), (354, (.tuple #[(vA [(.bool a2), (.int .i64 a3), (.int .i64 a4), (.int .i64 a5)]), (vI 0)]))] (wpF_step (op_new (some 29) (Instr.alloc 31 true (.tuple #[])) (vP w25.heap.size 0) ([vF, (vI 0), (vI 0), (vI 0)]) 31 ?_))
  intro w26 hBw26 hEw26
  have hzw26 := hEw26.size; have hlw26 := hBw26.lt
  refine wpF_step (op_store 31 w25.heap.size 0 31 (vA [(.bool a2), (.int .i64 a3), (.int .i64 a4), (.int .i64 a5)]) ([vF, (vI 0), (vI 0), (vI 0)]) ([(.bool a2), (.int .i64 a3), (.int .i64 a4), (.int .i64 a5)]) hBw26 (by kernel_rfl) (by first | decide | (simp; done) | (simp; omega)) (by simp [Value.oneCell']) ?_)
  intro w27 hBw27 hCw27
  have hzw27 := hCw27.size
  rw [setFrom_all _ _ (by kernel_rfl)] at hBw27
  refine wpF_run 1 [(16, (vI 0))] (wpF_end (then_code (wpC_seq (wpC_region (wpF_run 3 [(362, (vI j)), (361, vT), (360, vT)] (wpF_step (op_b (some 363) (decide (((j : Nat) : Int) ≥ ((0 : Nat) : Int))) true (cmpDT (by omega)) ?_)))))))
  refine wpF_run 4 [(367, (vI n)), (366, (vI j)), (365, vT), (364, vT)] (wpF_step (op_call (some 368) (c_rSectors n _ (by omega) (by omega)) ?_))
  rintro _ _ ⟨rfl, rfl⟩
  refine wpF_step (op_b (some 369) (decide (((j : Nat) : Int) < ((bas n (hgt n + 1) : Nat) : Int))) true (cmpDT (by omega)) ?_)
  refine wpF_run 2 [(30, vT), (370, vT)] (wpF_end (then_code (wpC_seq (wpC_region (wpF_run 17 [(387, vT), (386, vT), (385, vT), (384, undef), (383, undef), (382, undef), (381, undef), (380, undef), (379, undef), (378, undef), (377, vT), (376, vT), (375, vT), (374, vT), (373, vT), (372, vT), (371, (vI 0))] (wpF_step (op_call (some 388) (c_lives12 _) ?_)))))))
  rintro _ w28 ⟨rfl, hEw28⟩
  have hzw28 := hEw28.size
  refine wpF_run 2 [(2, vT), (389, vT)] (wpF_end (then_code (wpC_ret (body_rets vT ?_))))
  have hX1 : Ext w w28 := ((Ext.own (((((((((Ext.own ((((Ext.own ((((((((((((hEw1.trans hEw2).trans hEw3).trans hEw4).trans hEw5).trans hEw6).trans hEw7).trans hEw8).trans hEw9).trans hEw10).trans hEw11).trans hEw12).trans hEw13) hCw14 (by omega)).trans hEw15).trans hEw16).trans hEw17) hCw18 (by omega)).trans hEw19).trans hEw20).trans hEw21).trans hEw22).trans hEw23).trans hEw24).trans hEw25).trans hEw26) hCw27 (by omega)).trans hEw28)
  exact ⟨rfl, hX1⟩

theorem c_SE_xb_out (n : Nat) (l : Int) (j : Nat) (s : Int)  (w : World) (hp0 : 1 ≤ n) (hp1 : n ≤ 4096) (hp2 : ¬ (0 ≤ l ∧ l ≤ hgt n)) (hp3 : j < n) (hp4 : s ≠ 0) (hp5 : s ≠ 1) :
    Calls Try.prog 8 #[(vA [(vI n), (.int .i64 l), (vI j), (.int .i64 s)])] w (Ret fun r w' => r = vT ∧ Ext w w') := by
  refine calls_of (n := 390) (σ := [(0, (vA [(vI n), (.int .i64 l), (vI j), (.int .i64 s)]))]) Try.func8 rfl ?_
  have h5 := hgt_le n
  have hbg := bas_ge n (hgt n + 1)
  have hbs := bas_small (l := hgt n + 1) hp1 (by omega)
  refine wpC_seq (wpC_region (wpF_step (op_new (some 1) (Instr.box 58 (vA [(vI n), (.int .i64 l), (vI j), (.int .i64 s)])) (vP w.heap.size 0) ([(vI n), (.int .i64 l), (vI j), (.int .i64 s)]) 58 ?_)))
  intro w1 hBw1 hEw1
  have hzw1 := hEw1.size; have hlw1 := hBw1.lt
  refine wpF_run 1 [(2, vF)] (wpF_end (then_code (wpC_seq (wpC_drawM (Ext w1.drew) 12 [(32, 2, 0), (33, 2147483648, 1), (34, 2, 0), (35, 8589934592, 4), (36, 2, 0), (37, 34359738368, 16), (38, 2, 0), (39, 137438953472, 64), (4, 4294967296, 3), (5, 17179869184, 271), (6, 68719476736, 831), (7, 274877906944, 2047)] (fun hT263 => ?_)))))
  have hEw2 : Ext w1 w1.drew := Ext.drew w1
  generalize w1.drew = w2 at hEw2 ⊢
  have hzw2 := hEw2.size
  refine anyM_take hT263 0 1 (some 31) (vP w.heap.size 0) (yld_val (Instr.indexAt 58 (vP w.heap.size 0) (vI 0)) (fun w' hC => rn_ixa (E := 3) (sz := 1) (m := 4) (by omega))) (anyM_take hT263 1 3 (some 32) (vI n) (yld_val (Instr.loadAt 3 (vP w.heap.size 0)) (fun w' hC => rn_ld (((hBw1.ext hEw2).ext hC).cell rfl))) (anyM_take hT263 2 7 (some 33) (vP w.heap.size 1) (yld_val (Instr.indexAt 58 (vP w.heap.size 0) (vI 1)) (fun w' hC => rn_ixa (E := 3) (sz := 1) (m := 4) (by omega))) (anyM_take hT263 3 15 (some 34) (.int .i64 l) (yld_val (Instr.loadAt 3 (vP w.heap.size 1)) (fun w' hC => rn_ld (((hBw1.ext hEw2).ext hC).cell rfl))) (anyM_take hT263 4 31 (some 35) (vP w.heap.size 2) (yld_val (Instr.indexAt 58 (vP w.heap.size 0) (vI 2)) (fun w' hC => rn_ixa (E := 3) (sz := 1) (m := 4) (by omega))) (anyM_take hT263 5 63 (some 36) (vI j) (yld_val (Instr.loadAt 3 (vP w.heap.size 2)) (fun w' hC => rn_ld (((hBw1.ext hEw2).ext hC).cell rfl))) (anyM_take hT263 6 127 (some 37) (vP w.heap.size 3) (yld_val (Instr.indexAt 58 (vP w.heap.size 0) (vI 3)) (fun w' hC => rn_ixa (E := 3) (sz := 1) (m := 4) (by omega))) (anyM_take hT263 7 255 (some 38) (.int .i64 s) (yld_val (Instr.loadAt 3 (vP w.heap.size 3)) (fun w' hC => rn_ld (((hBw1.ext hEw2).ext hC).cell rfl))) (anyM_run hT263 [(8, 3, (vI n)), (9, 4, (.int .i64 l)), (10, 5, (vI j)), (11, 6, (.int .i64 s))] 4 4095 (anyM_done ?_)))))))))
  refine then_code (wpC_seq (wpC_region (wpF_run 1 [(39, (vI n))] (wpF_step (op_b (some 40) (decide (((n : Nat) : Int) ≥ ((1 : Nat) : Int))) true (cmpDT (by omega)) ?_)))))
  refine wpF_run 2 [(42, (vI n)), (41, vT)] (wpF_step (op_b (some 43) (decide (((n : Nat) : Int) ≤ ((4096 : Nat) : Int))) true (cmpDT (by omega)) ?_))
  refine wpF_run 2 [(7, vT), (44, vT)] (wpF_end (then_code (wpC_seq (wpC_region (wpF_run 5 [(49, (vI j)), (48, (.int .i64 l)), (47, (vI n)), (46, vT), (45, vT)] (wpF_step (op_call (some 50) (c_rIsBad n l ((j : Nat) : Int) _ (by omega) (by omega) (by (try simp only [Int.toNat_natCast]); omega)) ?_)))))))
  rintro _ _ ⟨rfl, rfl⟩
  refine wpF_run 2 [(8, vF), (51, vF)] (wpF_end (then_code (wpC_seq (wpC_region (wpF_run 1 [(53, (vI n))] (wpF_step (op_call (some 54) (c_Height n _ (by omega) (by omega)) ?_)))))))
  rintro _ w3 ⟨rfl, hEw3⟩
  have hzw3 := hEw3.size
  refine wpF_run 5 [(10, (vI 0)), (9, (vI (hgt n))), (56, (vI 0)), (55, (vI (hgt n))), (52, (.tuple #[(vI (hgt n)), (vI 0)]))] (wpF_end (then_code (wpC_seq (wpC_region (wpF_run 1 [(58, (vI n))] (wpF_step (op_call (some 59) (c_Total n _ (by omega) (by omega)) ?_)))))))
  rintro _ w4 ⟨rfl, hEw4⟩
  have hzw4 := hEw4.size
  refine wpF_run 5 [(12, (vI 0)), (11, (vI (tot n))), (61, (vI 0)), (60, (vI (tot n))), (57, (.tuple #[(vI (tot n)), (vI 0)]))] (wpF_end (then_code (wpC_seq (wpC_region (wpF_run 1 [(63, (vI n))] (wpF_step (op_call (some 64) (c_Sectors n _ (by omega) (by omega)) ?_)))))))
  rintro _ w5 ⟨rfl, hEw5⟩
  have hzw5 := hEw5.size
  refine wpF_run 5 [(14, (vI 0)), (13, (vI (bas n (hgt n + 1)))), (66, (vI 0)), (65, (vI (bas n (hgt n + 1)))), (62, (.tuple #[(vI (bas n (hgt n + 1))), (vI 0)]))] (wpF_end (then_code (wpC_seq (wpC_seq (wpC_region (wpF_run 18 [(84, (vI n)), (83, vF), (82, vF), (81, vF), (80, vT), (79, vT), (78, (vI 0)), (77, vF), (76, vF), (75, vF), (74, vT), (73, vT), (72, (vI 0)), (71, vF), (70, vF), (69, vT), (68, vT), (67, (vI 0))] (wpF_step (op_call (some 85) (c_Check n _ (by omega) (by omega)) ?_))))))))
  rintro _ _ ⟨rfl, rfl⟩
  refine wpF_run 21 [(106, vF), (105, vF), (104, undef), (103, undef), (102, vF), (101, vF), (100, vT), (99, vF), (98, vF), (97, vF), (96, (vI 0)), (95, (vI 0)), (94, vF), (93, vF), (92, vF), (91, (vI 0)), (90, (vI 0)), (89, vF), (88, vF), (87, vF), (86, (vI 0))] (wpF_end (then_code (wpC_false (wpC_skip (then_code (wpC_seq (wpC_region (wpF_run 2 [(109, (.int .i64 l)), (108, (vI n))] (wpF_step (op_call (some 110) (c_CountBad ((n : Nat) : Int) l _ (by (try simp only [Int.toNat_natCast]); omega)) ?_))))))))))
  rintro _ w6 ⟨rfl, hEw6⟩
  have hzw6 := hEw6.size
  refine wpF_run 5 [(16, (vI 1)), (15, (vI 0)), (112, (vI 1)), (111, (vI 0)), (107, (.tuple #[(vI 0), (vI 1)]))] (wpF_end (then_code (wpC_seq (wpC_seq (wpC_region (wpF_run 6 [(118, (.int .i64 l)), (117, (vI n)), (116, vT), (115, vT), (114, vF), (113, (vI 1))] (wpF_step (op_call (some 119) (c_rIsBad n l ((0 : Nat) : Int) _ (by omega) (by omega) (by (try simp only [Int.toNat_natCast]); omega)) ?_))))))))
  rintro _ _ ⟨rfl, rfl⟩
  refine wpF_run 14 [(133, vF), (132, vF), (131, vF), (130, vF), (129, (vI 0)), (128, vF), (127, vF), (126, (vI 1)), (125, vT), (124, vT), (123, (vI 1)), (122, vF), (121, vF), (120, vF)] (wpF_end (then_code (wpC_false (wpC_skip (then_code (wpC_seq (wpC_region (wpF_run 3 [(137, (vI j)), (136, (.int .i64 l)), (135, (vI n))] (wpF_step (op_call (some 138) (c_PartsBad ((n : Nat) : Int) l ((j : Nat) : Int) _ (by (try simp only [Int.toNat_natCast]); omega)) ?_))))))))))
  rintro _ w7 ⟨rfl, hEw7⟩
  have hzw7 := hEw7.size
  refine wpF_run 5 [(16, (vI 1)), (15, (vI 0)), (140, (vI 1)), (139, (vI 0)), (134, (.tuple #[(vI 0), (vI 1)]))] (wpF_end (then_code (wpC_seq (wpC_region (wpF_run 3 [(144, (vI j)), (143, (.int .i64 l)), (142, (vI n))] (wpF_step (op_call (some 145) (c_placeZ l ((j : Nat) : Int) _) ?_)))))))
  rintro _ w8 ⟨rfl, hEw8⟩
  have hzw8 := hEw8.size
  refine wpF_step (op_call (some 146) (c_BlocksBad ((n : Nat) : Int) l ((j : Nat) : Int) _ (by (try simp only [Int.toNat_natCast]); omega)) ?_)
  rintro _ w9 ⟨rfl, hEw9⟩
  have hzw9 := hEw9.size
  refine wpF_run 7 [(19, (vI 1)), (18, (vI 0)), (17, (vI 0)), (149, (vI 1)), (148, (vI 0)), (147, (vI 0)), (141, (.tuple #[(vI 0), (vI 0), (vI 1)]))] (wpF_end (then_code (wpC_seq (wpC_region (wpF_run 4 [(154, (.int .i64 s)), (153, (vI j)), (152, (.int .i64 l)), (151, (vI n))] (wpF_step (op_call (some 155) (c_NodeBad ((n : Nat) : Int) l ((j : Nat) : Int) s _ (by (try simp only [Int.toNat_natCast]); omega)) ?_)))))))
  rintro _ w10 ⟨rfl, hEw10⟩
  have hzw10 := hEw10.size
  refine wpF_run 5 [(21, (vI 1)), (20, (vI 0)), (157, (vI 1)), (156, (vI 0)), (150, (.tuple #[(vI 0), (vI 1)]))] (wpF_end (then_code (wpC_seq (wpC_seq (wpC_region (wpF_run 24 [(181, vF), (180, vF), (179, vF), (178, undef), (177, undef), (176, undef), (175, undef), (174, undef), (173, undef), (172, vF), (171, vF), (170, vF), (169, (vI 1)), (168, vF), (167, vF), (166, vF), (165, vF), (164, vF), (163, (vI 1)), (162, vF), (161, vF), (160, vF), (159, vF), (158, (vI 1))] (wpF_end (then_code (wpC_false ?_)))))))))
  refine wpC_skip (then_code (wpC_seq (wpC_seq (wpC_region (wpF_run 34 [(215, vF), (214, vF), (213, vF), (212, vF), (211, (vI 0)), (210, vF), (209, vF), (208, (vI 1)), (207, vT), (206, vT), (205, (vI 1)), (204, vF), (203, vF), (202, vF), (201, vF), (200, (vI 0)), (199, vF), (198, vF), (197, vF), (196, (vI 0)), (195, vF), (194, vF), (193, vF), (192, (vI 0)), (191, vF), (190, vF), (189, vF), (188, (vI 1)), (187, vF), (186, vF), (185, (vI 1)), (184, vT), (183, vT), (182, (vI 1))] (wpF_end (then_code (wpC_false (wpC_skip ?_)))))))))
  refine then_code (wpC_seq (wpC_region (wpF_run 3 [(219, (vI j)), (218, (.int .i64 l)), (217, (vI n))] (wpF_step (op_call (some 220) (c_placeZ l ((j : Nat) : Int) _) ?_)))))
  rintro _ w11 ⟨rfl, hEw11⟩
  have hzw11 := hEw11.size
  refine wpF_step (op_call (some 221) (c_ParentBad ((n : Nat) : Int) l ((j : Nat) : Int) _ (by (try simp only [Int.toNat_natCast]); omega)) ?_)
  rintro _ w12 ⟨rfl, hEw12⟩
  have hzw12 := hEw12.size
  refine wpF_run 4 [(224, (vI 1)), (223, (vI 0)), (222, (vA [(vI 0), (vI 0)])), (216, (.tuple #[(vA [(vI 0), (vI 0)]), (vI 0), (vI 1)]))] (wpF_step (op_new (some 22) (Instr.alloc 45 true (.tuple #[])) (vP w12.heap.size 0) ([(vI 0), (vI 0)]) 45 ?_))
  intro w13 hBw13 hEw13
  have hzw13 := hEw13.size; have hlw13 := hBw13.lt
  refine wpF_step (op_store 45 w12.heap.size 0 45 (vA [(vI 0), (vI 0)]) ([(vI 0), (vI 0)]) ([(vI 0), (vI 0)]) hBw13 (by kernel_rfl) (by first | decide | (simp; done) | (simp; omega)) (by simp [Value.oneCell']) ?_)
  intro w14 hBw14 hCw14
  have hzw14 := hCw14.size
  rw [setFrom_all _ _ (by kernel_rfl)] at hBw14
  refine wpF_run 2 [(24, (vI 1)), (23, (vI 0))] (wpF_end (then_code (wpC_seq (wpC_region (wpF_run 3 [(228, (vI j)), (227, (.int .i64 l)), (226, (vI n))] (wpF_step (op_call (some 229) (c_placeZ l ((j : Nat) : Int) _) ?_)))))))
  rintro _ w15 ⟨rfl, hEw15⟩
  have hzw15 := hEw15.size
  refine wpF_run 1 [(230, (.int .i64 s))] (wpF_step (op_call (some 231) (c_ChildBad ((n : Nat) : Int) l ((j : Nat) : Int) s _ (by (try simp only [Int.toNat_natCast]); omega)) ?_))
  rintro _ w16 ⟨rfl, hEw16⟩
  have hzw16 := hEw16.size
  refine wpF_run 3 [(233, (vI 1)), (232, (vA [(vI 0), (vI 0)])), (225, (.tuple #[(vA [(vI 0), (vI 0)]), (vI 1)]))] (wpF_step (op_new (some 25) (Instr.alloc 45 true (.tuple #[])) (vP w16.heap.size 0) ([(vI 0), (vI 0)]) 45 ?_))
  intro w17 hBw17 hEw17
  have hzw17 := hEw17.size; have hlw17 := hBw17.lt
  refine wpF_step (op_store 45 w16.heap.size 0 45 (vA [(vI 0), (vI 0)]) ([(vI 0), (vI 0)]) ([(vI 0), (vI 0)]) hBw17 (by kernel_rfl) (by first | decide | (simp; done) | (simp; omega)) (by simp [Value.oneCell']) ?_)
  intro w18 hBw18 hCw18
  have hzw18 := hCw18.size
  rw [setFrom_all _ _ (by kernel_rfl)] at hBw18
  refine wpF_run 1 [(26, (vI 1))] (wpF_end (then_code (wpC_seq (wpC_seq ?_))))
  refine wpC_drawM (Ext w18.drew) 36 [(235, 256, 0), (236, 27606985387162255149739023449108101809804435888681546220650096895197184, 1), (237, 55213970774324510299478046898216203619608871777363092441300193790394368, 2), (238, 110427941548649020598956093796432407239217743554726184882600387597565952, 4), (239, 331283824645947061796868281389297221717653230664178554647801162742366208, 12), (240, 552139707743245102994780468982162036196088717773630924413001937903943680, 20), (241, 883423532389192164791648750371459257913741948437809479060803100650504192, 32), (242, 883423532389192164791648750371459257913741948437809479060803100646309888, 32), (243, 6183964726724345153541541252600214805396193639064666353425621704524169216, 224), (244, 8061239733051378503723794847139565728462895279495011496429828293397577728, 292), (245, 14245204459775723657265336099739780533859088918559677849855449997921746944, 644), (246, 28269553036454149273332760011886696253239742350009903329945699220690305024, 1024), (247, 84808659109362447819998280035660088759719227050029709989837097662045749248, 3072), (248, 141458193123819395387262756153229913673437929493604242834611096490990370816, 5124), (249, 226266852233181843207261036188890002433157156543633952824448194153036120064, 8196), (250, 452312848583266388373324160190187140051835877600158453279131187530910662656, 17408), (251, 904625697166532776746648320380374280103671755200316906558262375061821325568, 32768), (252, 2713877091499598330239944961141122840311015265600950719674787125185463975936, 98304), (253, 4523128485832663883733241601901871400518358776001584532791311875309106626560, 163840), (254, 7237005577332262213973186563042994240829374041602535252466099000494570602560, 262144), (255, 21711016731996786641919559689128982722488122124807605757398297001483711807488, 786432), (256, 37089653583827843846612581135595345484250541963212993168888757377534674337792, 1343488), (257, 58800670315824630488532140824724328206738664088020598926287054379018386145280, 2392064), (258, 115792089237316195423570985008687907853269984665640564039457584007913129640000, 4194304), (259, 347376267711948586270712955026063723559809953996921692118372752023739388919808, 12582912), (260, 579865071883747509894601573363819913546453595083403137103846182414627469524992, 21004288), (261, 927241339595696096165314528389883637106263549080324829222218934438366858444800, 37781504), (262, 1852673427797059126777135760139006525652319754650249024631321344126610141347840, 67108864), (263, 5558020283391177380331407280417019576956959263950747073893964032379830222716928, 201326592), (264, 9263367138985295633885678800695032628261598773251245123156606720633050371194880, 335544320), (265, 14821387422376473014217086081112052205218558037201992197050570753012880627466240, 536870912), (266, 14821387422376473014217086081112052205218558037201992197050570753012880593911808, 536870912), (267, 103749711956635311099519602567784365436529906260413945379353995271090164157382656, 3758096384), (268, 135245160229185316254730910490147476372619342089468178798086458121242535419445248, 4898947072), (269, 238995776811517793887027259706252222183429352021637324494347011654707761398153216, 8657076224), (270, 474285302141744302987723501243906050941273960862218950622524822358787240826503168, 17179901952)] (fun hT446 => ?_)
  have hEw19 : Ext w18 w18.drew := Ext.drew w18
  generalize w18.drew = w19 at hEw19 ⊢
  have hzw19 := hEw19.size
  refine anyM_run hT446 [(0, 234, vF), (1, 235, vT), (2, 236, vT), (3, 237, (vI 1)), (4, 238, vF), (5, 239, vF)] 6 63 ?_
  have hK1 := (((((((((hBw14.ext hEw15)).ext hEw16)).ext hEw17)).chg hCw18 (fun hs => by have h : _ = _ := hs; omega))).ext hEw19)
  refine anyM_take hT446 6 127 (some 240) (vA [(vI 0), (vI 0)]) (yld_val (Instr.loadAt 45 (vP w12.heap.size 0)) (fun w' hC => rn_lda (vs := [(vI 0), (vI 0)]) ((hK1.ext hC).all))) (anyM_one 7 255 (op_call (some 241) (c_place 0 0 _) ?_))
  rintro _ w20 ⟨rfl, hEw20⟩
  have hzw20 := hEw20.size
  refine ⟨.inr hEw20, ?_⟩
  refine anyM_take (hw := show Ext w19 w20 from hEw20) hT446 8 511 (some 242) vF (yld_val (bo .neq 45 (.tmp 240) (.tmp 241) (vA [(vI 0), (vI 0)]) (vA [(vI 0), (vI 0)])) (fun w' hC => run_neqAgg (r := true) (T := 45) ((run_eq_flat (dd := 9998) (t := 45) [(vI 0), (vI 0)] [(vI 0), (vI 0)]).trans (congrArg (fun b => Result.ok b _) (show (eqvs [(vI 0), (vI 0)] [(vI 0), (vI 0)]) = true from by rfl))))) (anyM_run (hw := show Ext w19 w20 from hEw20) hT446 [(9, 243, vF), (10, 244, vF), (11, 245, (vI 0)), (12, 246, vF), (13, 247, vF), (14, 248, vF), (15, 249, vF), (16, 250, vF), (17, 251, vT), (18, 252, vT), (19, 253, undef), (20, 254, undef), (21, 255, vT), (22, 256, vT), (23, 257, undef), (24, 258, undef), (25, 259, vT), (26, 260, vT), (27, 261, (vI 1)), (28, 262, vF), (29, 263, vF)] 21 1073741823 (anyM_take (hw := show Ext w19 w20 from hEw20) hT446 30 2147483647 (some 264) (vA [(vI 0), (vI 0)]) (yld_val (Instr.loadAt 45 (vP w16.heap.size 0)) (fun w' hC => rn_lda (vs := [(vI 0), (vI 0)]) (((hBw18.ext hEw19).ext hC).all))) (anyM_one 31 4294967295 (op_call (some 265) (c_place 0 0 _) ?_))))
  rintro _ w21 ⟨rfl, hEw21⟩
  have hzw21 := hEw21.size
  refine ⟨.inr (hEw20.trans hEw21), ?_⟩
  refine anyM_take (hw := show Ext w19 w21 from (hEw20.trans hEw21)) hT446 32 8589934591 (some 266) vF (yld_val (bo .neq 45 (.tmp 264) (.tmp 265) (vA [(vI 0), (vI 0)]) (vA [(vI 0), (vI 0)])) (fun w' hC => run_neqAgg (r := true) (T := 45) ((run_eq_flat (dd := 9998) (t := 45) [(vI 0), (vI 0)] [(vI 0), (vI 0)]).trans (congrArg (fun b => Result.ok b _) (show (eqvs [(vI 0), (vI 0)] [(vI 0), (vI 0)]) = true from by rfl))))) (anyM_run (hw := show Ext w19 w21 from (hEw20.trans hEw21)) hT446 [(33, 267, vF), (34, 268, vF), (35, 269, vF)] 3 68719476735 (anyM_done (then_code (wpC_false (wpC_skip (then_code (wpC_seq (wpC_region (wpF_run 3 [(272, (vI j)), (271, vT), (270, vT)] ?_)))))))))
  refine wpF_step (op_b (some 273) (decide (((j : Nat) : Int) ≥ ((0 : Nat) : Int))) true (cmpDT (by omega)) ?_)
  refine wpF_run 4 [(277, (vI n)), (276, (vI j)), (275, vT), (274, vT)] (wpF_step (op_b (some 278) (decide (((j : Nat) : Int) < ((n : Nat) : Int))) true (cmpDT (by omega)) ?_))
  refine wpF_run 2 [(27, vT), (279, vT)] (wpF_end (then_code (wpC_seq (wpC_region (wpF_run 2 [(282, (vI j)), (281, (vI n))] (wpF_step (op_call (some 283) (c_Path n j _ (by omega) (by omega) (by omega)) ?_)))))))
  rintro _ w22 ⟨a1, rfl, hFz18_0, hEw22⟩
  have hzw22 := hEw22.size
  have hlea1 := hFz18_0.le
  refine wpF_run 5 [(16, (vI 0)), (28, (.slice a1 (hgt n + 1) (hgt n + 1))), (285, (vI 0)), (284, (.slice a1 (hgt n + 1) (hgt n + 1))), (280, (.tuple #[(.slice a1 (hgt n + 1) (hgt n + 1)), (vI 0)]))] (wpF_end (then_code (wpC_seq (wpC_region (wpF_run 2 [(288, (vI j)), (287, (vI n))] (wpF_step (op_call (some 289) (c_Group n j _ (by omega) (by omega) (by omega)) ?_)))))))
  rintro _ w23 ⟨rfl, hEw23⟩
  have hzw23 := hEw23.size
  refine wpF_run 5 [(19, (vI 0)), (292, (vI 0)), (291, (vI (j % 4))), (290, (vA [(vI 0), (vI (j / 4))])), (286, (.tuple #[(vA [(vI 0), (vI (j / 4))]), (vI (j % 4)), (vI 0)]))] (wpF_end (then_code (wpC_seq (wpC_region (wpF_run 3 [(296, (.int .i64 s)), (295, (vI j)), (294, (vI n))] (wpF_step (op_call (some 297) (c_DataSlot n j s _ (by omega) (by omega) (by omega) (by omega) (by omega)) ?_)))))))
  rintro _ w24 ⟨rfl, hEw24⟩
  have hzw24 := hEw24.size
  refine wpF_run 5 [(21, (vI 1)), (20, (vI 0)), (299, (vI 1)), (298, (vI 0)), (293, (.tuple #[(vI 0), (vI 1)]))] (wpF_end (then_code (wpC_seq (wpC_seq (wpC_region (wpF_run 16 [(315, (.int .i64 s)), (314, vT), (313, vT), (312, vF), (311, (vI 1)), (310, vF), (309, vF), (308, vF), (307, vT), (306, vT), (305, (vI 0)), (304, vF), (303, vF), (302, vT), (301, vT), (300, (vI 0))] (wpF_step (op_b (some 316) (s == ((0 : Nat) : Int)) false (cmpEqF (by omega)) ?_))))))))
  refine wpF_run 2 [(318, (.int .i64 s)), (317, vF)] (wpF_step (op_b (some 319) (s == ((1 : Nat) : Int)) false (cmpEqF (by omega)) ?_))
  refine wpF_run 34 [(353, vF), (352, vF), (351, vF), (350, vF), (349, (vI 0)), (348, vF), (347, vF), (346, (vI 1)), (345, vT), (344, vT), (343, (vI 1)), (342, vF), (341, vF), (340, vF), (339, undef), (338, undef), (337, undef), (336, undef), (335, undef), (334, undef), (333, undef), (332, undef), (331, undef), (330, undef), (329, undef), (328, undef), (327, vF), (326, vF), (325, (vI 0)), (324, vF), (323, vF), (322, vF), (321, vF), (320, vF)] (wpF_end (then_code (wpC_false (wpC_skip (then_code (wpC_seq (wpC_region (wpF_run 2 [(356, (vI j)), (355, (vI n))] (wpF_step (op_call (some 357) (c_OfAny n j _ (by omega) (by omega) (by omega)) ?_))))))))))
  rintro _ w25 ⟨a2, a3, a4, a5, rfl, hEw25⟩
  have hzw25 := hEw25.size
  refine wpF_run 3 [(359, (vI 0)), (358, (vA [(.bool a2), (.int .i64 a3), (.int .i64 a4), (.int .i64 a5)])), (354, (.tuple #[(vA [(.bool a2), (.int .i64 a3), (.int .i64 a4), (.int .i64 a5)]), (vI 0)]))] (wpF_step (op_new (some 29) (Instr.alloc 31 true (.tuple #[])) (vP w25.heap.size 0) ([vF, (vI 0), (vI 0), (vI 0)]) 31 ?_))
  intro w26 hBw26 hEw26
  have hzw26 := hEw26.size; have hlw26 := hBw26.lt
  refine wpF_step (op_store 31 w25.heap.size 0 31 (vA [(.bool a2), (.int .i64 a3), (.int .i64 a4), (.int .i64 a5)]) ([vF, (vI 0), (vI 0), (vI 0)]) ([(.bool a2), (.int .i64 a3), (.int .i64 a4), (.int .i64 a5)]) hBw26 (by kernel_rfl) (by first | decide | (simp; done) | (simp; omega)) (by simp [Value.oneCell']) ?_)
  intro w27 hBw27 hCw27
  have hzw27 := hCw27.size
  rw [setFrom_all _ _ (by kernel_rfl)] at hBw27
  refine wpF_run 1 [(16, (vI 0))] (wpF_end (then_code (wpC_seq (wpC_region (wpF_run 3 [(362, (vI j)), (361, vT), (360, vT)] (wpF_step (op_b (some 363) (decide (((j : Nat) : Int) ≥ ((0 : Nat) : Int))) true (cmpDT (by omega)) ?_)))))))
  refine wpF_run 4 [(367, (vI n)), (366, (vI j)), (365, vT), (364, vT)] (wpF_step (op_call (some 368) (c_rSectors n _ (by omega) (by omega)) ?_))
  rintro _ _ ⟨rfl, rfl⟩
  refine wpF_step (op_b (some 369) (decide (((j : Nat) : Int) < ((bas n (hgt n + 1) : Nat) : Int))) true (cmpDT (by omega)) ?_)
  refine wpF_run 2 [(30, vT), (370, vT)] (wpF_end (then_code (wpC_seq (wpC_region (wpF_run 17 [(387, vT), (386, vT), (385, vT), (384, undef), (383, undef), (382, undef), (381, undef), (380, undef), (379, undef), (378, undef), (377, vT), (376, vT), (375, vT), (374, vT), (373, vT), (372, vT), (371, (vI 0))] (wpF_step (op_call (some 388) (c_lives12 _) ?_)))))))
  rintro _ w28 ⟨rfl, hEw28⟩
  have hzw28 := hEw28.size
  refine wpF_run 2 [(2, vT), (389, vT)] (wpF_end (then_code (wpC_ret (body_rets vT ?_))))
  have hX1 : Ext w w28 := ((Ext.own (((((((((Ext.own ((((Ext.own ((((((((((((hEw1.trans hEw2).trans hEw3).trans hEw4).trans hEw5).trans hEw6).trans hEw7).trans hEw8).trans hEw9).trans hEw10).trans hEw11).trans hEw12).trans hEw13) hCw14 (by omega)).trans hEw15).trans hEw16).trans hEw17) hCw18 (by omega)).trans hEw19).trans hEw20).trans hEw21).trans hEw22).trans hEw23).trans hEw24).trans hEw25).trans hEw26) hCw27 (by omega)).trans hEw28)
  exact ⟨rfl, hX1⟩

theorem c_SE_xg (n : Nat) (l : Int) (j : Nat) (s : Int)  (w : World) (hp0 : 1 ≤ n) (hp1 : n ≤ 4096) (hp2 : ¬ (0 ≤ l ∧ l ≤ hgt n)) (hp3 : n ≤ j) (hp4 : j < bas n (hgt n + 1)) :
    Calls Try.prog 8 #[(vA [(vI n), (.int .i64 l), (vI j), (.int .i64 s)])] w (Ret fun r w' => r = vT ∧ Ext w w') := by
  refine calls_of (n := 390) (σ := [(0, (vA [(vI n), (.int .i64 l), (vI j), (.int .i64 s)]))]) Try.func8 rfl ?_
  have h5 := hgt_le n
  have hbg := bas_ge n (hgt n + 1)
  have hbs := bas_small (l := hgt n + 1) hp1 (by omega)
  refine wpC_seq (wpC_region (wpF_step (op_new (some 1) (Instr.box 58 (vA [(vI n), (.int .i64 l), (vI j), (.int .i64 s)])) (vP w.heap.size 0) ([(vI n), (.int .i64 l), (vI j), (.int .i64 s)]) 58 ?_)))
  intro w1 hBw1 hEw1
  have hzw1 := hEw1.size; have hlw1 := hBw1.lt
  refine wpF_run 1 [(2, vF)] (wpF_end (then_code (wpC_seq (wpC_drawM (Ext w1.drew) 12 [(32, 2, 0), (33, 2147483648, 1), (34, 2, 0), (35, 8589934592, 4), (36, 2, 0), (37, 34359738368, 16), (38, 2, 0), (39, 137438953472, 64), (4, 4294967296, 3), (5, 17179869184, 271), (6, 68719476736, 831), (7, 274877906944, 2047)] (fun hT388 => ?_)))))
  have hEw2 : Ext w1 w1.drew := Ext.drew w1
  generalize w1.drew = w2 at hEw2 ⊢
  have hzw2 := hEw2.size
  refine anyM_take hT388 0 1 (some 31) (vP w.heap.size 0) (yld_val (Instr.indexAt 58 (vP w.heap.size 0) (vI 0)) (fun w' hC => rn_ixa (E := 3) (sz := 1) (m := 4) (by omega))) (anyM_take hT388 1 3 (some 32) (vI n) (yld_val (Instr.loadAt 3 (vP w.heap.size 0)) (fun w' hC => rn_ld (((hBw1.ext hEw2).ext hC).cell rfl))) (anyM_take hT388 2 7 (some 33) (vP w.heap.size 1) (yld_val (Instr.indexAt 58 (vP w.heap.size 0) (vI 1)) (fun w' hC => rn_ixa (E := 3) (sz := 1) (m := 4) (by omega))) (anyM_take hT388 3 15 (some 34) (.int .i64 l) (yld_val (Instr.loadAt 3 (vP w.heap.size 1)) (fun w' hC => rn_ld (((hBw1.ext hEw2).ext hC).cell rfl))) (anyM_take hT388 4 31 (some 35) (vP w.heap.size 2) (yld_val (Instr.indexAt 58 (vP w.heap.size 0) (vI 2)) (fun w' hC => rn_ixa (E := 3) (sz := 1) (m := 4) (by omega))) (anyM_take hT388 5 63 (some 36) (vI j) (yld_val (Instr.loadAt 3 (vP w.heap.size 2)) (fun w' hC => rn_ld (((hBw1.ext hEw2).ext hC).cell rfl))) (anyM_take hT388 6 127 (some 37) (vP w.heap.size 3) (yld_val (Instr.indexAt 58 (vP w.heap.size 0) (vI 3)) (fun w' hC => rn_ixa (E := 3) (sz := 1) (m := 4) (by omega))) (anyM_take hT388 7 255 (some 38) (.int .i64 s) (yld_val (Instr.loadAt 3 (vP w.heap.size 3)) (fun w' hC => rn_ld (((hBw1.ext hEw2).ext hC).cell rfl))) (anyM_run hT388 [(8, 3, (vI n)), (9, 4, (.int .i64 l)), (10, 5, (vI j)), (11, 6, (.int .i64 s))] 4 4095 (anyM_done ?_)))))))))
  refine then_code (wpC_seq (wpC_region (wpF_run 1 [(39, (vI n))] (wpF_step (op_b (some 40) (decide (((n : Nat) : Int) ≥ ((1 : Nat) : Int))) true (cmpDT (by omega)) ?_)))))
  refine wpF_run 2 [(42, (vI n)), (41, vT)] (wpF_step (op_b (some 43) (decide (((n : Nat) : Int) ≤ ((4096 : Nat) : Int))) true (cmpDT (by omega)) ?_))
  refine wpF_run 2 [(7, vT), (44, vT)] (wpF_end (then_code (wpC_seq (wpC_region (wpF_run 5 [(49, (vI j)), (48, (.int .i64 l)), (47, (vI n)), (46, vT), (45, vT)] (wpF_step (op_call (some 50) (c_rIsBad n l ((j : Nat) : Int) _ (by omega) (by omega) (by (try simp only [Int.toNat_natCast]); omega)) ?_)))))))
  rintro _ _ ⟨rfl, rfl⟩
  refine wpF_run 2 [(8, vF), (51, vF)] (wpF_end (then_code (wpC_seq (wpC_region (wpF_run 1 [(53, (vI n))] (wpF_step (op_call (some 54) (c_Height n _ (by omega) (by omega)) ?_)))))))
  rintro _ w3 ⟨rfl, hEw3⟩
  have hzw3 := hEw3.size
  refine wpF_run 5 [(10, (vI 0)), (9, (vI (hgt n))), (56, (vI 0)), (55, (vI (hgt n))), (52, (.tuple #[(vI (hgt n)), (vI 0)]))] (wpF_end (then_code (wpC_seq (wpC_region (wpF_run 1 [(58, (vI n))] (wpF_step (op_call (some 59) (c_Total n _ (by omega) (by omega)) ?_)))))))
  rintro _ w4 ⟨rfl, hEw4⟩
  have hzw4 := hEw4.size
  refine wpF_run 5 [(12, (vI 0)), (11, (vI (tot n))), (61, (vI 0)), (60, (vI (tot n))), (57, (.tuple #[(vI (tot n)), (vI 0)]))] (wpF_end (then_code (wpC_seq (wpC_region (wpF_run 1 [(63, (vI n))] (wpF_step (op_call (some 64) (c_Sectors n _ (by omega) (by omega)) ?_)))))))
  rintro _ w5 ⟨rfl, hEw5⟩
  have hzw5 := hEw5.size
  refine wpF_run 5 [(14, (vI 0)), (13, (vI (bas n (hgt n + 1)))), (66, (vI 0)), (65, (vI (bas n (hgt n + 1)))), (62, (.tuple #[(vI (bas n (hgt n + 1))), (vI 0)]))] (wpF_end (then_code (wpC_seq (wpC_seq (wpC_region (wpF_run 18 [(84, (vI n)), (83, vF), (82, vF), (81, vF), (80, vT), (79, vT), (78, (vI 0)), (77, vF), (76, vF), (75, vF), (74, vT), (73, vT), (72, (vI 0)), (71, vF), (70, vF), (69, vT), (68, vT), (67, (vI 0))] (wpF_step (op_call (some 85) (c_Check n _ (by omega) (by omega)) ?_))))))))
  rintro _ _ ⟨rfl, rfl⟩
  refine wpF_run 21 [(106, vF), (105, vF), (104, undef), (103, undef), (102, vF), (101, vF), (100, vT), (99, vF), (98, vF), (97, vF), (96, (vI 0)), (95, (vI 0)), (94, vF), (93, vF), (92, vF), (91, (vI 0)), (90, (vI 0)), (89, vF), (88, vF), (87, vF), (86, (vI 0))] (wpF_end (then_code (wpC_false (wpC_skip (then_code (wpC_seq (wpC_region (wpF_run 2 [(109, (.int .i64 l)), (108, (vI n))] (wpF_step (op_call (some 110) (c_CountBad ((n : Nat) : Int) l _ (by (try simp only [Int.toNat_natCast]); omega)) ?_))))))))))
  rintro _ w6 ⟨rfl, hEw6⟩
  have hzw6 := hEw6.size
  refine wpF_run 5 [(16, (vI 1)), (15, (vI 0)), (112, (vI 1)), (111, (vI 0)), (107, (.tuple #[(vI 0), (vI 1)]))] (wpF_end (then_code (wpC_seq (wpC_seq (wpC_region (wpF_run 6 [(118, (.int .i64 l)), (117, (vI n)), (116, vT), (115, vT), (114, vF), (113, (vI 1))] (wpF_step (op_call (some 119) (c_rIsBad n l ((0 : Nat) : Int) _ (by omega) (by omega) (by (try simp only [Int.toNat_natCast]); omega)) ?_))))))))
  rintro _ _ ⟨rfl, rfl⟩
  refine wpF_run 14 [(133, vF), (132, vF), (131, vF), (130, vF), (129, (vI 0)), (128, vF), (127, vF), (126, (vI 1)), (125, vT), (124, vT), (123, (vI 1)), (122, vF), (121, vF), (120, vF)] (wpF_end (then_code (wpC_false (wpC_skip (then_code (wpC_seq (wpC_region (wpF_run 3 [(137, (vI j)), (136, (.int .i64 l)), (135, (vI n))] (wpF_step (op_call (some 138) (c_PartsBad ((n : Nat) : Int) l ((j : Nat) : Int) _ (by (try simp only [Int.toNat_natCast]); omega)) ?_))))))))))
  rintro _ w7 ⟨rfl, hEw7⟩
  have hzw7 := hEw7.size
  refine wpF_run 5 [(16, (vI 1)), (15, (vI 0)), (140, (vI 1)), (139, (vI 0)), (134, (.tuple #[(vI 0), (vI 1)]))] (wpF_end (then_code (wpC_seq (wpC_region (wpF_run 3 [(144, (vI j)), (143, (.int .i64 l)), (142, (vI n))] (wpF_step (op_call (some 145) (c_placeZ l ((j : Nat) : Int) _) ?_)))))))
  rintro _ w8 ⟨rfl, hEw8⟩
  have hzw8 := hEw8.size
  refine wpF_step (op_call (some 146) (c_BlocksBad ((n : Nat) : Int) l ((j : Nat) : Int) _ (by (try simp only [Int.toNat_natCast]); omega)) ?_)
  rintro _ w9 ⟨rfl, hEw9⟩
  have hzw9 := hEw9.size
  refine wpF_run 7 [(19, (vI 1)), (18, (vI 0)), (17, (vI 0)), (149, (vI 1)), (148, (vI 0)), (147, (vI 0)), (141, (.tuple #[(vI 0), (vI 0), (vI 1)]))] (wpF_end (then_code (wpC_seq (wpC_region (wpF_run 4 [(154, (.int .i64 s)), (153, (vI j)), (152, (.int .i64 l)), (151, (vI n))] (wpF_step (op_call (some 155) (c_NodeBad ((n : Nat) : Int) l ((j : Nat) : Int) s _ (by (try simp only [Int.toNat_natCast]); omega)) ?_)))))))
  rintro _ w10 ⟨rfl, hEw10⟩
  have hzw10 := hEw10.size
  refine wpF_run 5 [(21, (vI 1)), (20, (vI 0)), (157, (vI 1)), (156, (vI 0)), (150, (.tuple #[(vI 0), (vI 1)]))] (wpF_end (then_code (wpC_seq (wpC_seq (wpC_region (wpF_run 24 [(181, vF), (180, vF), (179, vF), (178, undef), (177, undef), (176, undef), (175, undef), (174, undef), (173, undef), (172, vF), (171, vF), (170, vF), (169, (vI 1)), (168, vF), (167, vF), (166, vF), (165, vF), (164, vF), (163, (vI 1)), (162, vF), (161, vF), (160, vF), (159, vF), (158, (vI 1))] (wpF_end (then_code (wpC_false ?_)))))))))
  refine wpC_skip (then_code (wpC_seq (wpC_seq (wpC_region (wpF_run 34 [(215, vF), (214, vF), (213, vF), (212, vF), (211, (vI 0)), (210, vF), (209, vF), (208, (vI 1)), (207, vT), (206, vT), (205, (vI 1)), (204, vF), (203, vF), (202, vF), (201, vF), (200, (vI 0)), (199, vF), (198, vF), (197, vF), (196, (vI 0)), (195, vF), (194, vF), (193, vF), (192, (vI 0)), (191, vF), (190, vF), (189, vF), (188, (vI 1)), (187, vF), (186, vF), (185, (vI 1)), (184, vT), (183, vT), (182, (vI 1))] (wpF_end (then_code (wpC_false (wpC_skip ?_)))))))))
  refine then_code (wpC_seq (wpC_region (wpF_run 3 [(219, (vI j)), (218, (.int .i64 l)), (217, (vI n))] (wpF_step (op_call (some 220) (c_placeZ l ((j : Nat) : Int) _) ?_)))))
  rintro _ w11 ⟨rfl, hEw11⟩
  have hzw11 := hEw11.size
  refine wpF_step (op_call (some 221) (c_ParentBad ((n : Nat) : Int) l ((j : Nat) : Int) _ (by (try simp only [Int.toNat_natCast]); omega)) ?_)
  rintro _ w12 ⟨rfl, hEw12⟩
  have hzw12 := hEw12.size
  refine wpF_run 4 [(224, (vI 1)), (223, (vI 0)), (222, (vA [(vI 0), (vI 0)])), (216, (.tuple #[(vA [(vI 0), (vI 0)]), (vI 0), (vI 1)]))] (wpF_step (op_new (some 22) (Instr.alloc 45 true (.tuple #[])) (vP w12.heap.size 0) ([(vI 0), (vI 0)]) 45 ?_))
  intro w13 hBw13 hEw13
  have hzw13 := hEw13.size; have hlw13 := hBw13.lt
  refine wpF_step (op_store 45 w12.heap.size 0 45 (vA [(vI 0), (vI 0)]) ([(vI 0), (vI 0)]) ([(vI 0), (vI 0)]) hBw13 (by kernel_rfl) (by first | decide | (simp; done) | (simp; omega)) (by simp [Value.oneCell']) ?_)
  intro w14 hBw14 hCw14
  have hzw14 := hCw14.size
  rw [setFrom_all _ _ (by kernel_rfl)] at hBw14
  refine wpF_run 2 [(24, (vI 1)), (23, (vI 0))] (wpF_end (then_code (wpC_seq (wpC_region (wpF_run 3 [(228, (vI j)), (227, (.int .i64 l)), (226, (vI n))] (wpF_step (op_call (some 229) (c_placeZ l ((j : Nat) : Int) _) ?_)))))))
  rintro _ w15 ⟨rfl, hEw15⟩
  have hzw15 := hEw15.size
  refine wpF_run 1 [(230, (.int .i64 s))] (wpF_step (op_call (some 231) (c_ChildBad ((n : Nat) : Int) l ((j : Nat) : Int) s _ (by (try simp only [Int.toNat_natCast]); omega)) ?_))
  rintro _ w16 ⟨rfl, hEw16⟩
  have hzw16 := hEw16.size
  refine wpF_run 3 [(233, (vI 1)), (232, (vA [(vI 0), (vI 0)])), (225, (.tuple #[(vA [(vI 0), (vI 0)]), (vI 1)]))] (wpF_step (op_new (some 25) (Instr.alloc 45 true (.tuple #[])) (vP w16.heap.size 0) ([(vI 0), (vI 0)]) 45 ?_))
  intro w17 hBw17 hEw17
  have hzw17 := hEw17.size; have hlw17 := hBw17.lt
  refine wpF_step (op_store 45 w16.heap.size 0 45 (vA [(vI 0), (vI 0)]) ([(vI 0), (vI 0)]) ([(vI 0), (vI 0)]) hBw17 (by kernel_rfl) (by first | decide | (simp; done) | (simp; omega)) (by simp [Value.oneCell']) ?_)
  intro w18 hBw18 hCw18
  have hzw18 := hCw18.size
  rw [setFrom_all _ _ (by kernel_rfl)] at hBw18
  refine wpF_run 1 [(26, (vI 1))] (wpF_end (then_code (wpC_seq (wpC_seq ?_))))
  refine wpC_drawM (Ext w18.drew) 36 [(235, 256, 0), (236, 27606985387162255149739023449108101809804435888681546220650096895197184, 1), (237, 55213970774324510299478046898216203619608871777363092441300193790394368, 2), (238, 110427941548649020598956093796432407239217743554726184882600387597565952, 4), (239, 331283824645947061796868281389297221717653230664178554647801162742366208, 12), (240, 552139707743245102994780468982162036196088717773630924413001937903943680, 20), (241, 883423532389192164791648750371459257913741948437809479060803100650504192, 32), (242, 883423532389192164791648750371459257913741948437809479060803100646309888, 32), (243, 6183964726724345153541541252600214805396193639064666353425621704524169216, 224), (244, 8061239733051378503723794847139565728462895279495011496429828293397577728, 292), (245, 14245204459775723657265336099739780533859088918559677849855449997921746944, 644), (246, 28269553036454149273332760011886696253239742350009903329945699220690305024, 1024), (247, 84808659109362447819998280035660088759719227050029709989837097662045749248, 3072), (248, 141458193123819395387262756153229913673437929493604242834611096490990370816, 5124), (249, 226266852233181843207261036188890002433157156543633952824448194153036120064, 8196), (250, 452312848583266388373324160190187140051835877600158453279131187530910662656, 17408), (251, 904625697166532776746648320380374280103671755200316906558262375061821325568, 32768), (252, 2713877091499598330239944961141122840311015265600950719674787125185463975936, 98304), (253, 4523128485832663883733241601901871400518358776001584532791311875309106626560, 163840), (254, 7237005577332262213973186563042994240829374041602535252466099000494570602560, 262144), (255, 21711016731996786641919559689128982722488122124807605757398297001483711807488, 786432), (256, 37089653583827843846612581135595345484250541963212993168888757377534674337792, 1343488), (257, 58800670315824630488532140824724328206738664088020598926287054379018386145280, 2392064), (258, 115792089237316195423570985008687907853269984665640564039457584007913129640000, 4194304), (259, 347376267711948586270712955026063723559809953996921692118372752023739388919808, 12582912), (260, 579865071883747509894601573363819913546453595083403137103846182414627469524992, 21004288), (261, 927241339595696096165314528389883637106263549080324829222218934438366858444800, 37781504), (262, 1852673427797059126777135760139006525652319754650249024631321344126610141347840, 67108864), (263, 5558020283391177380331407280417019576956959263950747073893964032379830222716928, 201326592), (264, 9263367138985295633885678800695032628261598773251245123156606720633050371194880, 335544320), (265, 14821387422376473014217086081112052205218558037201992197050570753012880627466240, 536870912), (266, 14821387422376473014217086081112052205218558037201992197050570753012880593911808, 536870912), (267, 103749711956635311099519602567784365436529906260413945379353995271090164157382656, 3758096384), (268, 135245160229185316254730910490147476372619342089468178798086458121242535419445248, 4898947072), (269, 238995776811517793887027259706252222183429352021637324494347011654707761398153216, 8657076224), (270, 474285302141744302987723501243906050941273960862218950622524822358787240826503168, 17179901952)] (fun hT571 => ?_)
  have hEw19 : Ext w18 w18.drew := Ext.drew w18
  generalize w18.drew = w19 at hEw19 ⊢
  have hzw19 := hEw19.size
  refine anyM_run hT571 [(0, 234, vF), (1, 235, vT), (2, 236, vT), (3, 237, (vI 1)), (4, 238, vF), (5, 239, vF)] 6 63 ?_
  have hK1 := (((((((((hBw14.ext hEw15)).ext hEw16)).ext hEw17)).chg hCw18 (fun hs => by have h : _ = _ := hs; omega))).ext hEw19)
  refine anyM_take hT571 6 127 (some 240) (vA [(vI 0), (vI 0)]) (yld_val (Instr.loadAt 45 (vP w12.heap.size 0)) (fun w' hC => rn_lda (vs := [(vI 0), (vI 0)]) ((hK1.ext hC).all))) (anyM_one 7 255 (op_call (some 241) (c_place 0 0 _) ?_))
  rintro _ w20 ⟨rfl, hEw20⟩
  have hzw20 := hEw20.size
  refine ⟨.inr hEw20, ?_⟩
  refine anyM_take (hw := show Ext w19 w20 from hEw20) hT571 8 511 (some 242) vF (yld_val (bo .neq 45 (.tmp 240) (.tmp 241) (vA [(vI 0), (vI 0)]) (vA [(vI 0), (vI 0)])) (fun w' hC => run_neqAgg (r := true) (T := 45) ((run_eq_flat (dd := 9998) (t := 45) [(vI 0), (vI 0)] [(vI 0), (vI 0)]).trans (congrArg (fun b => Result.ok b _) (show (eqvs [(vI 0), (vI 0)] [(vI 0), (vI 0)]) = true from by rfl))))) (anyM_run (hw := show Ext w19 w20 from hEw20) hT571 [(9, 243, vF), (10, 244, vF), (11, 245, (vI 0)), (12, 246, vF), (13, 247, vF), (14, 248, vF), (15, 249, vF), (16, 250, vF), (17, 251, vT), (18, 252, vT), (19, 253, undef), (20, 254, undef), (21, 255, vT), (22, 256, vT), (23, 257, undef), (24, 258, undef), (25, 259, vT), (26, 260, vT), (27, 261, (vI 1)), (28, 262, vF), (29, 263, vF)] 21 1073741823 (anyM_take (hw := show Ext w19 w20 from hEw20) hT571 30 2147483647 (some 264) (vA [(vI 0), (vI 0)]) (yld_val (Instr.loadAt 45 (vP w16.heap.size 0)) (fun w' hC => rn_lda (vs := [(vI 0), (vI 0)]) (((hBw18.ext hEw19).ext hC).all))) (anyM_one 31 4294967295 (op_call (some 265) (c_place 0 0 _) ?_))))
  rintro _ w21 ⟨rfl, hEw21⟩
  have hzw21 := hEw21.size
  refine ⟨.inr (hEw20.trans hEw21), ?_⟩
  refine anyM_take (hw := show Ext w19 w21 from (hEw20.trans hEw21)) hT571 32 8589934591 (some 266) vF (yld_val (bo .neq 45 (.tmp 264) (.tmp 265) (vA [(vI 0), (vI 0)]) (vA [(vI 0), (vI 0)])) (fun w' hC => run_neqAgg (r := true) (T := 45) ((run_eq_flat (dd := 9998) (t := 45) [(vI 0), (vI 0)] [(vI 0), (vI 0)]).trans (congrArg (fun b => Result.ok b _) (show (eqvs [(vI 0), (vI 0)] [(vI 0), (vI 0)]) = true from by rfl))))) (anyM_run (hw := show Ext w19 w21 from (hEw20.trans hEw21)) hT571 [(33, 267, vF), (34, 268, vF), (35, 269, vF)] 3 68719476735 (anyM_done (then_code (wpC_false (wpC_skip (then_code (wpC_seq (wpC_region (wpF_run 3 [(272, (vI j)), (271, vT), (270, vT)] ?_)))))))))
  refine wpF_step (op_b (some 273) (decide (((j : Nat) : Int) ≥ ((0 : Nat) : Int))) true (cmpDT (by omega)) ?_)
  refine wpF_run 4 [(277, (vI n)), (276, (vI j)), (275, vT), (274, vT)] (wpF_step (op_b (some 278) (decide (((j : Nat) : Int) < ((n : Nat) : Int))) false (cmpDF (by omega)) ?_))
  refine wpF_run 2 [(27, vF), (279, vF)] (wpF_end (then_code (wpC_seq (wpC_region (wpF_run 2 [(282, (vI j)), (281, (vI n))] (wpF_step (op_call (some 283) (c_PathBad ((n : Nat) : Int) ((j : Nat) : Int) _ (by (try simp only [Int.toNat_natCast]); omega)) ?_)))))))
  rintro _ w22 ⟨rfl, hEw22⟩
  have hzw22 := hEw22.size
  refine wpF_run 5 [(16, (vI 1)), (28, (.slice none 0 0)), (285, (vI 1)), (284, (.slice none 0 0)), (280, (.tuple #[(.slice none 0 0), (vI 1)]))] (wpF_end (then_code (wpC_seq (wpC_region (wpF_run 2 [(288, (vI j)), (287, (vI n))] (wpF_step (op_call (some 289) (c_GroupBad ((n : Nat) : Int) ((j : Nat) : Int) _ (by (try simp only [Int.toNat_natCast]); omega)) ?_)))))))
  rintro _ w23 ⟨rfl, hEw23⟩
  have hzw23 := hEw23.size
  refine wpF_run 5 [(19, (vI 1)), (292, (vI 1)), (291, (vI 0)), (290, (vA [(vI 0), (vI 0)])), (286, (.tuple #[(vA [(vI 0), (vI 0)]), (vI 0), (vI 1)]))] (wpF_end (then_code (wpC_seq (wpC_region (wpF_run 3 [(296, (.int .i64 s)), (295, (vI j)), (294, (vI n))] (wpF_step (op_call (some 297) (c_DataBad ((n : Nat) : Int) ((j : Nat) : Int) s _ (by (try simp only [Int.toNat_natCast]); omega)) ?_)))))))
  rintro _ w24 ⟨rfl, hEw24⟩
  have hzw24 := hEw24.size
  refine wpF_run 5 [(21, (vI 1)), (20, (vI 0)), (299, (vI 1)), (298, (vI 0)), (293, (.tuple #[(vI 0), (vI 1)]))] (wpF_end (then_code (wpC_seq (wpC_seq (wpC_region (wpF_run 54 [(353, vF), (352, vF), (351, vF), (350, vF), (349, (vI 0)), (348, vF), (347, vF), (346, (vI 1)), (345, vT), (344, vT), (343, (vI 1)), (342, vF), (341, vF), (340, vF), (339, vF), (338, vF), (337, (vI 1)), (336, (vI 1)), (335, vF), (334, vF), (333, vF), (332, (vI 1)), (331, vF), (330, vF), (329, (vI 0)), (328, (.slice none 0 0)), (327, vT), (326, vT), (325, (vI 1)), (324, vF), (323, vF), (322, vF), (321, vF), (320, undef), (319, undef), (318, undef), (317, undef), (316, undef), (315, undef), (314, vF), (313, vF), (312, vF), (311, (vI 1)), (310, vF), (309, vF), (308, vF), (307, vF), (306, vF), (305, (vI 1)), (304, vF), (303, vF), (302, vF), (301, vF), (300, (vI 1))] (wpF_end (then_code (wpC_false ?_)))))))))
  refine wpC_skip (then_code (wpC_seq (wpC_region (wpF_run 2 [(356, (vI j)), (355, (vI n))] (wpF_step (op_call (some 357) (c_OfAny n j _ (by omega) (by omega) (by omega)) ?_))))))
  rintro _ w25 ⟨a1, a2, a3, a4, rfl, hEw25⟩
  have hzw25 := hEw25.size
  refine wpF_run 3 [(359, (vI 0)), (358, (vA [(.bool a1), (.int .i64 a2), (.int .i64 a3), (.int .i64 a4)])), (354, (.tuple #[(vA [(.bool a1), (.int .i64 a2), (.int .i64 a3), (.int .i64 a4)]), (vI 0)]))] (wpF_step (op_new (some 29) (Instr.alloc 31 true (.tuple #[])) (vP w25.heap.size 0) ([vF, (vI 0), (vI 0), (vI 0)]) 31 ?_))
  intro w26 hBw26 hEw26
  have hzw26 := hEw26.size; have hlw26 := hBw26.lt
  refine wpF_step (op_store 31 w25.heap.size 0 31 (vA [(.bool a1), (.int .i64 a2), (.int .i64 a3), (.int .i64 a4)]) ([vF, (vI 0), (vI 0), (vI 0)]) ([(.bool a1), (.int .i64 a2), (.int .i64 a3), (.int .i64 a4)]) hBw26 (by kernel_rfl) (by first | decide | (simp; done) | (simp; omega)) (by simp [Value.oneCell']) ?_)
  intro w27 hBw27 hCw27
  have hzw27 := hCw27.size
  rw [setFrom_all _ _ (by kernel_rfl)] at hBw27
  refine wpF_run 1 [(16, (vI 0))] (wpF_end (then_code (wpC_seq (wpC_region (wpF_run 3 [(362, (vI j)), (361, vT), (360, vT)] (wpF_step (op_b (some 363) (decide (((j : Nat) : Int) ≥ ((0 : Nat) : Int))) true (cmpDT (by omega)) ?_)))))))
  refine wpF_run 4 [(367, (vI n)), (366, (vI j)), (365, vT), (364, vT)] (wpF_step (op_call (some 368) (c_rSectors n _ (by omega) (by omega)) ?_))
  rintro _ _ ⟨rfl, rfl⟩
  refine wpF_step (op_b (some 369) (decide (((j : Nat) : Int) < ((bas n (hgt n + 1) : Nat) : Int))) true (cmpDT (by omega)) ?_)
  refine wpF_run 2 [(30, vT), (370, vT)] (wpF_end (then_code (wpC_seq (wpC_region (wpF_run 17 [(387, vT), (386, vT), (385, vT), (384, undef), (383, undef), (382, undef), (381, undef), (380, undef), (379, undef), (378, undef), (377, vT), (376, vT), (375, vT), (374, vT), (373, vT), (372, vT), (371, (vI 0))] (wpF_step (op_call (some 388) (c_lives12 _) ?_)))))))
  rintro _ w28 ⟨rfl, hEw28⟩
  have hzw28 := hEw28.size
  refine wpF_run 2 [(2, vT), (389, vT)] (wpF_end (then_code (wpC_ret (body_rets vT ?_))))
  have hX1 : Ext w w28 := ((Ext.own (((((((((Ext.own ((((Ext.own ((((((((((((hEw1.trans hEw2).trans hEw3).trans hEw4).trans hEw5).trans hEw6).trans hEw7).trans hEw8).trans hEw9).trans hEw10).trans hEw11).trans hEw12).trans hEw13) hCw14 (by omega)).trans hEw15).trans hEw16).trans hEw17) hCw18 (by omega)).trans hEw19).trans hEw20).trans hEw21).trans hEw22).trans hEw23).trans hEw24).trans hEw25).trans hEw26) hCw27 (by omega)).trans hEw28)
  exact ⟨rfl, hX1⟩

theorem c_SE_xn (n : Nat) (l : Int) (j : Int) (s : Int)  (w : World) (hp0 : 1 ≤ n) (hp1 : n ≤ 4096) (hp2 : ¬ (0 ≤ l ∧ l ≤ hgt n)) (hp3 : ¬ (0 ≤ j ∧ j < bas n (hgt n + 1))) :
    Calls Try.prog 8 #[(vA [(vI n), (.int .i64 l), (.int .i64 j), (.int .i64 s)])] w (Ret fun r w' => r = vT ∧ Ext w w') := by
  refine calls_of (n := 390) (σ := [(0, (vA [(vI n), (.int .i64 l), (.int .i64 j), (.int .i64 s)]))]) Try.func8 rfl ?_
  have h5 := hgt_le n
  have hbg := bas_ge n (hgt n + 1)
  have hbs := bas_small (l := hgt n + 1) hp1 (by omega)
  refine wpC_seq (wpC_region (wpF_step (op_new (some 1) (Instr.box 58 (vA [(vI n), (.int .i64 l), (.int .i64 j), (.int .i64 s)])) (vP w.heap.size 0) ([(vI n), (.int .i64 l), (.int .i64 j), (.int .i64 s)]) 58 ?_)))
  intro w1 hBw1 hEw1
  have hzw1 := hEw1.size; have hlw1 := hBw1.lt
  refine wpF_run 1 [(2, vF)] (wpF_end (then_code (wpC_seq (wpC_drawM (Ext w1.drew) 12 [(32, 2, 0), (33, 2147483648, 1), (34, 2, 0), (35, 8589934592, 4), (36, 2, 0), (37, 34359738368, 16), (38, 2, 0), (39, 137438953472, 64), (4, 4294967296, 3), (5, 17179869184, 271), (6, 68719476736, 831), (7, 274877906944, 2047)] (fun hT511 => ?_)))))
  have hEw2 : Ext w1 w1.drew := Ext.drew w1
  generalize w1.drew = w2 at hEw2 ⊢
  have hzw2 := hEw2.size
  refine anyM_take hT511 0 1 (some 31) (vP w.heap.size 0) (yld_val (Instr.indexAt 58 (vP w.heap.size 0) (vI 0)) (fun w' hC => rn_ixa (E := 3) (sz := 1) (m := 4) (by omega))) (anyM_take hT511 1 3 (some 32) (vI n) (yld_val (Instr.loadAt 3 (vP w.heap.size 0)) (fun w' hC => rn_ld (((hBw1.ext hEw2).ext hC).cell rfl))) (anyM_take hT511 2 7 (some 33) (vP w.heap.size 1) (yld_val (Instr.indexAt 58 (vP w.heap.size 0) (vI 1)) (fun w' hC => rn_ixa (E := 3) (sz := 1) (m := 4) (by omega))) (anyM_take hT511 3 15 (some 34) (.int .i64 l) (yld_val (Instr.loadAt 3 (vP w.heap.size 1)) (fun w' hC => rn_ld (((hBw1.ext hEw2).ext hC).cell rfl))) (anyM_take hT511 4 31 (some 35) (vP w.heap.size 2) (yld_val (Instr.indexAt 58 (vP w.heap.size 0) (vI 2)) (fun w' hC => rn_ixa (E := 3) (sz := 1) (m := 4) (by omega))) (anyM_take hT511 5 63 (some 36) (.int .i64 j) (yld_val (Instr.loadAt 3 (vP w.heap.size 2)) (fun w' hC => rn_ld (((hBw1.ext hEw2).ext hC).cell rfl))) (anyM_take hT511 6 127 (some 37) (vP w.heap.size 3) (yld_val (Instr.indexAt 58 (vP w.heap.size 0) (vI 3)) (fun w' hC => rn_ixa (E := 3) (sz := 1) (m := 4) (by omega))) (anyM_take hT511 7 255 (some 38) (.int .i64 s) (yld_val (Instr.loadAt 3 (vP w.heap.size 3)) (fun w' hC => rn_ld (((hBw1.ext hEw2).ext hC).cell rfl))) (anyM_run hT511 [(8, 3, (vI n)), (9, 4, (.int .i64 l)), (10, 5, (.int .i64 j)), (11, 6, (.int .i64 s))] 4 4095 (anyM_done ?_)))))))))
  refine then_code (wpC_seq (wpC_region (wpF_run 1 [(39, (vI n))] (wpF_step (op_b (some 40) (decide (((n : Nat) : Int) ≥ ((1 : Nat) : Int))) true (cmpDT (by omega)) ?_)))))
  refine wpF_run 2 [(42, (vI n)), (41, vT)] (wpF_step (op_b (some 43) (decide (((n : Nat) : Int) ≤ ((4096 : Nat) : Int))) true (cmpDT (by omega)) ?_))
  refine wpF_run 2 [(7, vT), (44, vT)] (wpF_end (then_code (wpC_seq (wpC_region (wpF_run 5 [(49, (.int .i64 j)), (48, (.int .i64 l)), (47, (vI n)), (46, vT), (45, vT)] (wpF_step (op_call (some 50) (c_rIsBad n l j _ (by omega) (by omega) (by (try simp only [Int.toNat_natCast]); omega)) ?_)))))))
  rintro _ _ ⟨rfl, rfl⟩
  refine wpF_run 2 [(8, vF), (51, vF)] (wpF_end (then_code (wpC_seq (wpC_region (wpF_run 1 [(53, (vI n))] (wpF_step (op_call (some 54) (c_Height n _ (by omega) (by omega)) ?_)))))))
  rintro _ w3 ⟨rfl, hEw3⟩
  have hzw3 := hEw3.size
  refine wpF_run 5 [(10, (vI 0)), (9, (vI (hgt n))), (56, (vI 0)), (55, (vI (hgt n))), (52, (.tuple #[(vI (hgt n)), (vI 0)]))] (wpF_end (then_code (wpC_seq (wpC_region (wpF_run 1 [(58, (vI n))] (wpF_step (op_call (some 59) (c_Total n _ (by omega) (by omega)) ?_)))))))
  rintro _ w4 ⟨rfl, hEw4⟩
  have hzw4 := hEw4.size
  refine wpF_run 5 [(12, (vI 0)), (11, (vI (tot n))), (61, (vI 0)), (60, (vI (tot n))), (57, (.tuple #[(vI (tot n)), (vI 0)]))] (wpF_end (then_code (wpC_seq (wpC_region (wpF_run 1 [(63, (vI n))] (wpF_step (op_call (some 64) (c_Sectors n _ (by omega) (by omega)) ?_)))))))
  rintro _ w5 ⟨rfl, hEw5⟩
  have hzw5 := hEw5.size
  refine wpF_run 5 [(14, (vI 0)), (13, (vI (bas n (hgt n + 1)))), (66, (vI 0)), (65, (vI (bas n (hgt n + 1)))), (62, (.tuple #[(vI (bas n (hgt n + 1))), (vI 0)]))] (wpF_end (then_code (wpC_seq (wpC_seq (wpC_region (wpF_run 18 [(84, (vI n)), (83, vF), (82, vF), (81, vF), (80, vT), (79, vT), (78, (vI 0)), (77, vF), (76, vF), (75, vF), (74, vT), (73, vT), (72, (vI 0)), (71, vF), (70, vF), (69, vT), (68, vT), (67, (vI 0))] (wpF_step (op_call (some 85) (c_Check n _ (by omega) (by omega)) ?_))))))))
  rintro _ _ ⟨rfl, rfl⟩
  refine wpF_run 21 [(106, vF), (105, vF), (104, undef), (103, undef), (102, vF), (101, vF), (100, vT), (99, vF), (98, vF), (97, vF), (96, (vI 0)), (95, (vI 0)), (94, vF), (93, vF), (92, vF), (91, (vI 0)), (90, (vI 0)), (89, vF), (88, vF), (87, vF), (86, (vI 0))] (wpF_end (then_code (wpC_false (wpC_skip (then_code (wpC_seq (wpC_region (wpF_run 2 [(109, (.int .i64 l)), (108, (vI n))] (wpF_step (op_call (some 110) (c_CountBad ((n : Nat) : Int) l _ (by (try simp only [Int.toNat_natCast]); omega)) ?_))))))))))
  rintro _ w6 ⟨rfl, hEw6⟩
  have hzw6 := hEw6.size
  refine wpF_run 5 [(16, (vI 1)), (15, (vI 0)), (112, (vI 1)), (111, (vI 0)), (107, (.tuple #[(vI 0), (vI 1)]))] (wpF_end (then_code (wpC_seq (wpC_seq (wpC_region (wpF_run 6 [(118, (.int .i64 l)), (117, (vI n)), (116, vT), (115, vT), (114, vF), (113, (vI 1))] (wpF_step (op_call (some 119) (c_rIsBad n l ((0 : Nat) : Int) _ (by omega) (by omega) (by (try simp only [Int.toNat_natCast]); omega)) ?_))))))))
  rintro _ _ ⟨rfl, rfl⟩
  refine wpF_run 14 [(133, vF), (132, vF), (131, vF), (130, vF), (129, (vI 0)), (128, vF), (127, vF), (126, (vI 1)), (125, vT), (124, vT), (123, (vI 1)), (122, vF), (121, vF), (120, vF)] (wpF_end (then_code (wpC_false (wpC_skip (then_code (wpC_seq (wpC_region (wpF_run 3 [(137, (.int .i64 j)), (136, (.int .i64 l)), (135, (vI n))] (wpF_step (op_call (some 138) (c_PartsBad ((n : Nat) : Int) l j _ (by (try simp only [Int.toNat_natCast]); omega)) ?_))))))))))
  rintro _ w7 ⟨rfl, hEw7⟩
  have hzw7 := hEw7.size
  refine wpF_run 5 [(16, (vI 1)), (15, (vI 0)), (140, (vI 1)), (139, (vI 0)), (134, (.tuple #[(vI 0), (vI 1)]))] (wpF_end (then_code (wpC_seq (wpC_region (wpF_run 3 [(144, (.int .i64 j)), (143, (.int .i64 l)), (142, (vI n))] (wpF_step (op_call (some 145) (c_placeZ l j _) ?_)))))))
  rintro _ w8 ⟨rfl, hEw8⟩
  have hzw8 := hEw8.size
  refine wpF_step (op_call (some 146) (c_BlocksBad ((n : Nat) : Int) l j _ (by (try simp only [Int.toNat_natCast]); omega)) ?_)
  rintro _ w9 ⟨rfl, hEw9⟩
  have hzw9 := hEw9.size
  refine wpF_run 7 [(19, (vI 1)), (18, (vI 0)), (17, (vI 0)), (149, (vI 1)), (148, (vI 0)), (147, (vI 0)), (141, (.tuple #[(vI 0), (vI 0), (vI 1)]))] (wpF_end (then_code (wpC_seq (wpC_region (wpF_run 4 [(154, (.int .i64 s)), (153, (.int .i64 j)), (152, (.int .i64 l)), (151, (vI n))] (wpF_step (op_call (some 155) (c_NodeBad ((n : Nat) : Int) l j s _ (by (try simp only [Int.toNat_natCast]); omega)) ?_)))))))
  rintro _ w10 ⟨rfl, hEw10⟩
  have hzw10 := hEw10.size
  refine wpF_run 5 [(21, (vI 1)), (20, (vI 0)), (157, (vI 1)), (156, (vI 0)), (150, (.tuple #[(vI 0), (vI 1)]))] (wpF_end (then_code (wpC_seq (wpC_seq (wpC_region (wpF_run 24 [(181, vF), (180, vF), (179, vF), (178, undef), (177, undef), (176, undef), (175, undef), (174, undef), (173, undef), (172, vF), (171, vF), (170, vF), (169, (vI 1)), (168, vF), (167, vF), (166, vF), (165, vF), (164, vF), (163, (vI 1)), (162, vF), (161, vF), (160, vF), (159, vF), (158, (vI 1))] (wpF_end (then_code (wpC_false ?_)))))))))
  refine wpC_skip (then_code (wpC_seq (wpC_seq (wpC_region (wpF_run 34 [(215, vF), (214, vF), (213, vF), (212, vF), (211, (vI 0)), (210, vF), (209, vF), (208, (vI 1)), (207, vT), (206, vT), (205, (vI 1)), (204, vF), (203, vF), (202, vF), (201, vF), (200, (vI 0)), (199, vF), (198, vF), (197, vF), (196, (vI 0)), (195, vF), (194, vF), (193, vF), (192, (vI 0)), (191, vF), (190, vF), (189, vF), (188, (vI 1)), (187, vF), (186, vF), (185, (vI 1)), (184, vT), (183, vT), (182, (vI 1))] (wpF_end (then_code (wpC_false (wpC_skip ?_)))))))))
  refine then_code (wpC_seq (wpC_region (wpF_run 3 [(219, (.int .i64 j)), (218, (.int .i64 l)), (217, (vI n))] (wpF_step (op_call (some 220) (c_placeZ l j _) ?_)))))
  rintro _ w11 ⟨rfl, hEw11⟩
  have hzw11 := hEw11.size
  refine wpF_step (op_call (some 221) (c_ParentBad ((n : Nat) : Int) l j _ (by (try simp only [Int.toNat_natCast]); omega)) ?_)
  rintro _ w12 ⟨rfl, hEw12⟩
  have hzw12 := hEw12.size
  refine wpF_run 4 [(224, (vI 1)), (223, (vI 0)), (222, (vA [(vI 0), (vI 0)])), (216, (.tuple #[(vA [(vI 0), (vI 0)]), (vI 0), (vI 1)]))] (wpF_step (op_new (some 22) (Instr.alloc 45 true (.tuple #[])) (vP w12.heap.size 0) ([(vI 0), (vI 0)]) 45 ?_))
  intro w13 hBw13 hEw13
  have hzw13 := hEw13.size; have hlw13 := hBw13.lt
  refine wpF_step (op_store 45 w12.heap.size 0 45 (vA [(vI 0), (vI 0)]) ([(vI 0), (vI 0)]) ([(vI 0), (vI 0)]) hBw13 (by kernel_rfl) (by first | decide | (simp; done) | (simp; omega)) (by simp [Value.oneCell']) ?_)
  intro w14 hBw14 hCw14
  have hzw14 := hCw14.size
  rw [setFrom_all _ _ (by kernel_rfl)] at hBw14
  refine wpF_run 2 [(24, (vI 1)), (23, (vI 0))] (wpF_end (then_code (wpC_seq (wpC_region (wpF_run 3 [(228, (.int .i64 j)), (227, (.int .i64 l)), (226, (vI n))] (wpF_step (op_call (some 229) (c_placeZ l j _) ?_)))))))
  rintro _ w15 ⟨rfl, hEw15⟩
  have hzw15 := hEw15.size
  refine wpF_run 1 [(230, (.int .i64 s))] (wpF_step (op_call (some 231) (c_ChildBad ((n : Nat) : Int) l j s _ (by (try simp only [Int.toNat_natCast]); omega)) ?_))
  rintro _ w16 ⟨rfl, hEw16⟩
  have hzw16 := hEw16.size
  refine wpF_run 3 [(233, (vI 1)), (232, (vA [(vI 0), (vI 0)])), (225, (.tuple #[(vA [(vI 0), (vI 0)]), (vI 1)]))] (wpF_step (op_new (some 25) (Instr.alloc 45 true (.tuple #[])) (vP w16.heap.size 0) ([(vI 0), (vI 0)]) 45 ?_))
  intro w17 hBw17 hEw17
  have hzw17 := hEw17.size; have hlw17 := hBw17.lt
  refine wpF_step (op_store 45 w16.heap.size 0 45 (vA [(vI 0), (vI 0)]) ([(vI 0), (vI 0)]) ([(vI 0), (vI 0)]) hBw17 (by kernel_rfl) (by first | decide | (simp; done) | (simp; omega)) (by simp [Value.oneCell']) ?_)
  intro w18 hBw18 hCw18
  have hzw18 := hCw18.size
  rw [setFrom_all _ _ (by kernel_rfl)] at hBw18
  refine wpF_run 1 [(26, (vI 1))] (wpF_end (then_code (wpC_seq (wpC_seq ?_))))
  refine wpC_drawM (Ext w18.drew) 36 [(235, 256, 0), (236, 27606985387162255149739023449108101809804435888681546220650096895197184, 1), (237, 55213970774324510299478046898216203619608871777363092441300193790394368, 2), (238, 110427941548649020598956093796432407239217743554726184882600387597565952, 4), (239, 331283824645947061796868281389297221717653230664178554647801162742366208, 12), (240, 552139707743245102994780468982162036196088717773630924413001937903943680, 20), (241, 883423532389192164791648750371459257913741948437809479060803100650504192, 32), (242, 883423532389192164791648750371459257913741948437809479060803100646309888, 32), (243, 6183964726724345153541541252600214805396193639064666353425621704524169216, 224), (244, 8061239733051378503723794847139565728462895279495011496429828293397577728, 292), (245, 14245204459775723657265336099739780533859088918559677849855449997921746944, 644), (246, 28269553036454149273332760011886696253239742350009903329945699220690305024, 1024), (247, 84808659109362447819998280035660088759719227050029709989837097662045749248, 3072), (248, 141458193123819395387262756153229913673437929493604242834611096490990370816, 5124), (249, 226266852233181843207261036188890002433157156543633952824448194153036120064, 8196), (250, 452312848583266388373324160190187140051835877600158453279131187530910662656, 17408), (251, 904625697166532776746648320380374280103671755200316906558262375061821325568, 32768), (252, 2713877091499598330239944961141122840311015265600950719674787125185463975936, 98304), (253, 4523128485832663883733241601901871400518358776001584532791311875309106626560, 163840), (254, 7237005577332262213973186563042994240829374041602535252466099000494570602560, 262144), (255, 21711016731996786641919559689128982722488122124807605757398297001483711807488, 786432), (256, 37089653583827843846612581135595345484250541963212993168888757377534674337792, 1343488), (257, 58800670315824630488532140824724328206738664088020598926287054379018386145280, 2392064), (258, 115792089237316195423570985008687907853269984665640564039457584007913129640000, 4194304), (259, 347376267711948586270712955026063723559809953996921692118372752023739388919808, 12582912), (260, 579865071883747509894601573363819913546453595083403137103846182414627469524992, 21004288), (261, 927241339595696096165314528389883637106263549080324829222218934438366858444800, 37781504), (262, 1852673427797059126777135760139006525652319754650249024631321344126610141347840, 67108864), (263, 5558020283391177380331407280417019576956959263950747073893964032379830222716928, 201326592), (264, 9263367138985295633885678800695032628261598773251245123156606720633050371194880, 335544320), (265, 14821387422376473014217086081112052205218558037201992197050570753012880627466240, 536870912), (266, 14821387422376473014217086081112052205218558037201992197050570753012880593911808, 536870912), (267, 103749711956635311099519602567784365436529906260413945379353995271090164157382656, 3758096384), (268, 135245160229185316254730910490147476372619342089468178798086458121242535419445248, 4898947072), (269, 238995776811517793887027259706252222183429352021637324494347011654707761398153216, 8657076224), (270, 474285302141744302987723501243906050941273960862218950622524822358787240826503168, 17179901952)] (fun hT694 => ?_)
  have hEw19 : Ext w18 w18.drew := Ext.drew w18
  generalize w18.drew = w19 at hEw19 ⊢
  have hzw19 := hEw19.size
  refine anyM_run hT694 [(0, 234, vF), (1, 235, vT), (2, 236, vT), (3, 237, (vI 1)), (4, 238, vF), (5, 239, vF)] 6 63 ?_
  have hK1 := (((((((((hBw14.ext hEw15)).ext hEw16)).ext hEw17)).chg hCw18 (fun hs => by have h : _ = _ := hs; omega))).ext hEw19)
  refine anyM_take hT694 6 127 (some 240) (vA [(vI 0), (vI 0)]) (yld_val (Instr.loadAt 45 (vP w12.heap.size 0)) (fun w' hC => rn_lda (vs := [(vI 0), (vI 0)]) ((hK1.ext hC).all))) (anyM_one 7 255 (op_call (some 241) (c_place 0 0 _) ?_))
  rintro _ w20 ⟨rfl, hEw20⟩
  have hzw20 := hEw20.size
  refine ⟨.inr hEw20, ?_⟩
  refine anyM_take (hw := show Ext w19 w20 from hEw20) hT694 8 511 (some 242) vF (yld_val (bo .neq 45 (.tmp 240) (.tmp 241) (vA [(vI 0), (vI 0)]) (vA [(vI 0), (vI 0)])) (fun w' hC => run_neqAgg (r := true) (T := 45) ((run_eq_flat (dd := 9998) (t := 45) [(vI 0), (vI 0)] [(vI 0), (vI 0)]).trans (congrArg (fun b => Result.ok b _) (show (eqvs [(vI 0), (vI 0)] [(vI 0), (vI 0)]) = true from by rfl))))) (anyM_run (hw := show Ext w19 w20 from hEw20) hT694 [(9, 243, vF), (10, 244, vF), (11, 245, (vI 0)), (12, 246, vF), (13, 247, vF), (14, 248, vF), (15, 249, vF), (16, 250, vF), (17, 251, vT), (18, 252, vT), (19, 253, undef), (20, 254, undef), (21, 255, vT), (22, 256, vT), (23, 257, undef), (24, 258, undef), (25, 259, vT), (26, 260, vT), (27, 261, (vI 1)), (28, 262, vF), (29, 263, vF)] 21 1073741823 (anyM_take (hw := show Ext w19 w20 from hEw20) hT694 30 2147483647 (some 264) (vA [(vI 0), (vI 0)]) (yld_val (Instr.loadAt 45 (vP w16.heap.size 0)) (fun w' hC => rn_lda (vs := [(vI 0), (vI 0)]) (((hBw18.ext hEw19).ext hC).all))) (anyM_one 31 4294967295 (op_call (some 265) (c_place 0 0 _) ?_))))
  rintro _ w21 ⟨rfl, hEw21⟩
  have hzw21 := hEw21.size
  refine ⟨.inr (hEw20.trans hEw21), ?_⟩
  refine anyM_take (hw := show Ext w19 w21 from (hEw20.trans hEw21)) hT694 32 8589934591 (some 266) vF (yld_val (bo .neq 45 (.tmp 264) (.tmp 265) (vA [(vI 0), (vI 0)]) (vA [(vI 0), (vI 0)])) (fun w' hC => run_neqAgg (r := true) (T := 45) ((run_eq_flat (dd := 9998) (t := 45) [(vI 0), (vI 0)] [(vI 0), (vI 0)]).trans (congrArg (fun b => Result.ok b _) (show (eqvs [(vI 0), (vI 0)] [(vI 0), (vI 0)]) = true from by rfl))))) (anyM_run (hw := show Ext w19 w21 from (hEw20.trans hEw21)) hT694 [(33, 267, vF), (34, 268, vF), (35, 269, vF)] 3 68719476735 (anyM_done (then_code (wpC_false (wpC_skip (then_code (wpC_seq (wpC_region (wpF_run 3 [(272, (.int .i64 j)), (271, vT), (270, vT)] ?_)))))))))
  refine wpF_step (op_split (some 273) (decide (j ≥ ((0 : Nat) : Int))) (fun hc273 => ?_) (fun hc273 => ?_))
  · replace hc273 : j ≥ ((0 : Nat) : Int) := by have := of_d_t hc273; omega
    refine wpF_run 4 [(277, (vI n)), (276, (.int .i64 j)), (275, vT), (274, vT)] (wpF_step (op_b (some 278) (decide (j < ((n : Nat) : Int))) false (cmpDF (by omega)) ?_))
    refine wpF_run 2 [(27, vF), (279, vF)] (wpF_end (then_code (wpC_seq (wpC_region (wpF_run 2 [(282, (.int .i64 j)), (281, (vI n))] (wpF_step (op_call (some 283) (c_PathBad ((n : Nat) : Int) j _ (by (try simp only [Int.toNat_natCast]); omega)) ?_)))))))
    rintro _ w22 ⟨rfl, hEw22⟩
    have hzw22 := hEw22.size
    refine wpF_run 5 [(16, (vI 1)), (28, (.slice none 0 0)), (285, (vI 1)), (284, (.slice none 0 0)), (280, (.tuple #[(.slice none 0 0), (vI 1)]))] (wpF_end (then_code (wpC_seq (wpC_region (wpF_run 2 [(288, (.int .i64 j)), (287, (vI n))] (wpF_step (op_call (some 289) (c_GroupBad ((n : Nat) : Int) j _ (by (try simp only [Int.toNat_natCast]); omega)) ?_)))))))
    rintro _ w23 ⟨rfl, hEw23⟩
    have hzw23 := hEw23.size
    refine wpF_run 5 [(19, (vI 1)), (292, (vI 1)), (291, (vI 0)), (290, (vA [(vI 0), (vI 0)])), (286, (.tuple #[(vA [(vI 0), (vI 0)]), (vI 0), (vI 1)]))] (wpF_end (then_code (wpC_seq (wpC_region (wpF_run 3 [(296, (.int .i64 s)), (295, (.int .i64 j)), (294, (vI n))] (wpF_step (op_call (some 297) (c_DataBad ((n : Nat) : Int) j s _ (by (try simp only [Int.toNat_natCast]); omega)) ?_)))))))
    rintro _ w24 ⟨rfl, hEw24⟩
    have hzw24 := hEw24.size
    refine wpF_run 5 [(21, (vI 1)), (20, (vI 0)), (299, (vI 1)), (298, (vI 0)), (293, (.tuple #[(vI 0), (vI 1)]))] (wpF_end (then_code (wpC_seq (wpC_seq (wpC_region (wpF_run 54 [(353, vF), (352, vF), (351, vF), (350, vF), (349, (vI 0)), (348, vF), (347, vF), (346, (vI 1)), (345, vT), (344, vT), (343, (vI 1)), (342, vF), (341, vF), (340, vF), (339, vF), (338, vF), (337, (vI 1)), (336, (vI 1)), (335, vF), (334, vF), (333, vF), (332, (vI 1)), (331, vF), (330, vF), (329, (vI 0)), (328, (.slice none 0 0)), (327, vT), (326, vT), (325, (vI 1)), (324, vF), (323, vF), (322, vF), (321, vF), (320, undef), (319, undef), (318, undef), (317, undef), (316, undef), (315, undef), (314, vF), (313, vF), (312, vF), (311, (vI 1)), (310, vF), (309, vF), (308, vF), (307, vF), (306, vF), (305, (vI 1)), (304, vF), (303, vF), (302, vF), (301, vF), (300, (vI 1))] (wpF_end (then_code (wpC_false ?_)))))))))
    refine wpC_skip (then_code (wpC_seq (wpC_region (wpF_run 2 [(356, (.int .i64 j)), (355, (vI n))] (wpF_step (op_call (some 357) (c_OfBad ((n : Nat) : Int) j _ (by (try simp only [Int.toNat_natCast]); omega)) ?_))))))
    rintro _ w25 ⟨rfl, hEw25⟩
    have hzw25 := hEw25.size
    refine wpF_run 3 [(359, (vI 1)), (358, (vA [vF, (vI 0), (vI 0), (vI 0)])), (354, (.tuple #[(vA [vF, (vI 0), (vI 0), (vI 0)]), (vI 1)]))] (wpF_step (op_new (some 29) (Instr.alloc 31 true (.tuple #[])) (vP w25.heap.size 0) ([vF, (vI 0), (vI 0), (vI 0)]) 31 ?_))
    intro w26 hBw26 hEw26
    have hzw26 := hEw26.size; have hlw26 := hBw26.lt
    refine wpF_step (op_store 31 w25.heap.size 0 31 (vA [vF, (vI 0), (vI 0), (vI 0)]) ([vF, (vI 0), (vI 0), (vI 0)]) ([vF, (vI 0), (vI 0), (vI 0)]) hBw26 (by kernel_rfl) (by first | decide | (simp; done) | (simp; omega)) (by simp [Value.oneCell']) ?_)
    intro w27 hBw27 hCw27
    have hzw27 := hCw27.size
    rw [setFrom_all _ _ (by kernel_rfl)] at hBw27
    refine wpF_run 1 [(16, (vI 1))] (wpF_end (then_code (wpC_seq (wpC_region (wpF_run 3 [(362, (.int .i64 j)), (361, vT), (360, vT)] (wpF_step (op_b (some 363) (decide (j ≥ ((0 : Nat) : Int))) true (cmpDT (by omega)) ?_)))))))
    refine wpF_run 4 [(367, (vI n)), (366, (.int .i64 j)), (365, vT), (364, vT)] (wpF_step (op_call (some 368) (c_rSectors n _ (by omega) (by omega)) ?_))
    rintro _ _ ⟨rfl, rfl⟩
    refine wpF_step (op_b (some 369) (decide (j < ((bas n (hgt n + 1) : Nat) : Int))) false (cmpDF (by omega)) ?_)
    refine wpF_run 2 [(30, vF), (370, vF)] (wpF_end (then_code (wpC_seq (wpC_region (wpF_run 10 [(380, vT), (379, vT), (378, (vI 1)), (377, vF), (376, vF), (375, vT), (374, vT), (373, vF), (372, vF), (371, (vI 1))] (wpF_step (op_v (some 381) (Instr.loadAt 31 (vP w25.heap.size 0)) (vA [vF, (vI 0), (vI 0), (vI 0)]) (rn_lda (vs := [vF, (vI 0), (vI 0), (vI 0)]) (hBw27.all)) ?_)))))))
    refine wpF_run 1 [(382, (vA [vF, (vI 0), (vI 0), (vI 0)]))] (wpF_step (op_v (some 383) (bo .eql 31 (.tmp 381) (.tmp 382) (vA [vF, (vI 0), (vI 0), (vI 0)]) (vA [vF, (vI 0), (vI 0), (vI 0)])) vT (run_eqlAgg (r := true) (T := 31) ((run_eq_flat (dd := 9998) (t := 31) [vF, (vI 0), (vI 0), (vI 0)] [vF, (vI 0), (vI 0), (vI 0)]).trans (congrArg (fun b => Result.ok b _) (show (eqvs [vF, (vI 0), (vI 0), (vI 0)] [vF, (vI 0), (vI 0), (vI 0)]) = true from by rfl)))) ?_))
    refine wpF_run 4 [(387, vT), (386, vT), (385, vT), (384, vT)] (wpF_step (op_call (some 388) (c_lives12 _) ?_))
    rintro _ w28 ⟨rfl, hEw28⟩
    have hzw28 := hEw28.size
    refine wpF_run 2 [(2, vT), (389, vT)] (wpF_end (then_code (wpC_ret (body_rets vT ?_))))
    have hX1 : Ext w w28 := ((Ext.own (((((((((Ext.own ((((Ext.own ((((((((((((hEw1.trans hEw2).trans hEw3).trans hEw4).trans hEw5).trans hEw6).trans hEw7).trans hEw8).trans hEw9).trans hEw10).trans hEw11).trans hEw12).trans hEw13) hCw14 (by omega)).trans hEw15).trans hEw16).trans hEw17) hCw18 (by omega)).trans hEw19).trans hEw20).trans hEw21).trans hEw22).trans hEw23).trans hEw24).trans hEw25).trans hEw26) hCw27 (by omega)).trans hEw28)
    exact ⟨rfl, hX1⟩
  · replace hc273 : ¬ (j ≥ ((0 : Nat) : Int)) := by have := of_d_f hc273; omega
    refine wpF_run 7 [(27, vF), (279, vF), (278, undef), (277, undef), (276, undef), (275, vF), (274, vF)] (wpF_end (then_code (wpC_seq (wpC_region (wpF_run 2 [(282, (.int .i64 j)), (281, (vI n))] (wpF_step (op_call (some 283) (c_PathBad ((n : Nat) : Int) j _ (by (try simp only [Int.toNat_natCast]); omega)) ?_)))))))
    rintro _ w29 ⟨rfl, hEw29⟩
    have hzw29 := hEw29.size
    refine wpF_run 5 [(16, (vI 1)), (28, (.slice none 0 0)), (285, (vI 1)), (284, (.slice none 0 0)), (280, (.tuple #[(.slice none 0 0), (vI 1)]))] (wpF_end (then_code (wpC_seq (wpC_region (wpF_run 2 [(288, (.int .i64 j)), (287, (vI n))] (wpF_step (op_call (some 289) (c_GroupBad ((n : Nat) : Int) j _ (by (try simp only [Int.toNat_natCast]); omega)) ?_)))))))
    rintro _ w30 ⟨rfl, hEw30⟩
    have hzw30 := hEw30.size
    refine wpF_run 5 [(19, (vI 1)), (292, (vI 1)), (291, (vI 0)), (290, (vA [(vI 0), (vI 0)])), (286, (.tuple #[(vA [(vI 0), (vI 0)]), (vI 0), (vI 1)]))] (wpF_end (then_code (wpC_seq (wpC_region (wpF_run 3 [(296, (.int .i64 s)), (295, (.int .i64 j)), (294, (vI n))] (wpF_step (op_call (some 297) (c_DataBad ((n : Nat) : Int) j s _ (by (try simp only [Int.toNat_natCast]); omega)) ?_)))))))
    rintro _ w31 ⟨rfl, hEw31⟩
    have hzw31 := hEw31.size
    refine wpF_run 5 [(21, (vI 1)), (20, (vI 0)), (299, (vI 1)), (298, (vI 0)), (293, (.tuple #[(vI 0), (vI 1)]))] (wpF_end (then_code (wpC_seq (wpC_seq (wpC_region (wpF_run 54 [(353, vF), (352, vF), (351, vF), (350, vF), (349, (vI 0)), (348, vF), (347, vF), (346, (vI 1)), (345, vT), (344, vT), (343, (vI 1)), (342, vF), (341, vF), (340, vF), (339, vF), (338, vF), (337, (vI 1)), (336, (vI 1)), (335, vF), (334, vF), (333, vF), (332, (vI 1)), (331, vF), (330, vF), (329, (vI 0)), (328, (.slice none 0 0)), (327, vT), (326, vT), (325, (vI 1)), (324, vF), (323, vF), (322, vF), (321, vF), (320, undef), (319, undef), (318, undef), (317, undef), (316, undef), (315, undef), (314, vF), (313, vF), (312, vF), (311, (vI 1)), (310, vF), (309, vF), (308, vF), (307, vF), (306, vF), (305, (vI 1)), (304, vF), (303, vF), (302, vF), (301, vF), (300, (vI 1))] (wpF_end (then_code (wpC_false ?_)))))))))
    refine wpC_skip (then_code (wpC_seq (wpC_region (wpF_run 2 [(356, (.int .i64 j)), (355, (vI n))] (wpF_step (op_call (some 357) (c_OfBad ((n : Nat) : Int) j _ (by (try simp only [Int.toNat_natCast]); omega)) ?_))))))
    rintro _ w32 ⟨rfl, hEw32⟩
    have hzw32 := hEw32.size
    refine wpF_run 3 [(359, (vI 1)), (358, (vA [vF, (vI 0), (vI 0), (vI 0)])), (354, (.tuple #[(vA [vF, (vI 0), (vI 0), (vI 0)]), (vI 1)]))] (wpF_step (op_new (some 29) (Instr.alloc 31 true (.tuple #[])) (vP w32.heap.size 0) ([vF, (vI 0), (vI 0), (vI 0)]) 31 ?_))
    intro w33 hBw33 hEw33
    have hzw33 := hEw33.size; have hlw33 := hBw33.lt
    refine wpF_step (op_store 31 w32.heap.size 0 31 (vA [vF, (vI 0), (vI 0), (vI 0)]) ([vF, (vI 0), (vI 0), (vI 0)]) ([vF, (vI 0), (vI 0), (vI 0)]) hBw33 (by kernel_rfl) (by first | decide | (simp; done) | (simp; omega)) (by simp [Value.oneCell']) ?_)
    intro w34 hBw34 hCw34
    have hzw34 := hCw34.size
    rw [setFrom_all _ _ (by kernel_rfl)] at hBw34
    refine wpF_run 1 [(16, (vI 1))] (wpF_end (then_code (wpC_seq (wpC_region (wpF_run 3 [(362, (.int .i64 j)), (361, vT), (360, vT)] (wpF_step (op_b (some 363) (decide (j ≥ ((0 : Nat) : Int))) false (cmpDF (by omega)) ?_)))))))
    refine wpF_run 8 [(30, vF), (370, vF), (369, undef), (368, undef), (367, undef), (366, undef), (365, vF), (364, vF)] (wpF_end (then_code (wpC_seq (wpC_region (wpF_run 10 [(380, vT), (379, vT), (378, (vI 1)), (377, vF), (376, vF), (375, vT), (374, vT), (373, vF), (372, vF), (371, (vI 1))] (wpF_step (op_v (some 381) (Instr.loadAt 31 (vP w32.heap.size 0)) (vA [vF, (vI 0), (vI 0), (vI 0)]) (rn_lda (vs := [vF, (vI 0), (vI 0), (vI 0)]) (hBw34.all)) ?_)))))))
    refine wpF_run 1 [(382, (vA [vF, (vI 0), (vI 0), (vI 0)]))] (wpF_step (op_v (some 383) (bo .eql 31 (.tmp 381) (.tmp 382) (vA [vF, (vI 0), (vI 0), (vI 0)]) (vA [vF, (vI 0), (vI 0), (vI 0)])) vT (run_eqlAgg (r := true) (T := 31) ((run_eq_flat (dd := 9998) (t := 31) [vF, (vI 0), (vI 0), (vI 0)] [vF, (vI 0), (vI 0), (vI 0)]).trans (congrArg (fun b => Result.ok b _) (show (eqvs [vF, (vI 0), (vI 0), (vI 0)] [vF, (vI 0), (vI 0), (vI 0)]) = true from by rfl)))) ?_))
    refine wpF_run 4 [(387, vT), (386, vT), (385, vT), (384, vT)] (wpF_step (op_call (some 388) (c_lives12 _) ?_))
    rintro _ w35 ⟨rfl, hEw35⟩
    have hzw35 := hEw35.size
    refine wpF_run 2 [(2, vT), (389, vT)] (wpF_end (then_code (wpC_ret (body_rets vT ?_))))
    have hX2 : Ext w w35 := ((Ext.own (((((((((Ext.own ((((Ext.own ((((((((((((hEw1.trans hEw2).trans hEw3).trans hEw4).trans hEw5).trans hEw6).trans hEw7).trans hEw8).trans hEw9).trans hEw10).trans hEw11).trans hEw12).trans hEw13) hCw14 (by omega)).trans hEw15).trans hEw16).trans hEw17) hCw18 (by omega)).trans hEw19).trans hEw20).trans hEw21).trans hEw29).trans hEw30).trans hEw31).trans hEw32).trans hEw33) hCw34 (by omega)).trans hEw35)
    exact ⟨rfl, hX2⟩

end Go.Proofs.Ytpcbhalagllhnaa
