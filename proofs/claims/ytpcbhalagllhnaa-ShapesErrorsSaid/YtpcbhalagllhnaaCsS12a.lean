/- CsS12a: what each function does, by its own code. No condition beyond those of each statement. -/
import Derived.Test.YtpcbhalagllhnaaCsS7
namespace Go.Proofs.Ytpcbhalagllhnaa
open Go Go.RowKit Go.Cs
set_option maxRecDepth 100000
set_option linter.all false
set_option linter.unusedVariables false

theorem c_ParentAny (n : Nat) (l : Nat) (j : Nat)  (w : World) (hp0 : 1 ≤ n) (hp1 : n ≤ 4096) (hp2 : l ≤ hgt n) (hp3 : j < cnt n l) :
    Calls Try.prog 30 #[(vI n), (vA [(vI l), (vI j)])] w (Ret fun r w' => ∃ (a0 : Int) (a1 : Int) (a2 : Int) (a3 : Int), r = (.tuple #[(vA [(.int .i64 a0), (.int .i64 a1)]), (.int .i64 a2), (.int .i64 a3)]) ∧ Ext w w') := by
  by_cases h : l = hgt n
  · refine (c_ParentTop n l j w hp0 hp1 hp2 hp3 h).mono ?_
    rintro e w' ⟨v, rfl, hr, hE⟩
    exact ⟨v, rfl, _, _, _, _, hr, hE⟩
  · refine (c_Parent n l j w hp0 hp1 hp2 hp3 (by omega)).mono ?_
    rintro e w' ⟨v, rfl, hr, hE⟩
    exact ⟨v, rfl, _, _, _, _, hr, hE⟩

theorem c_ChildAny (n : Nat) (l : Nat) (j : Nat) (w_ : Nat)  (w : World) (hp0 : 1 ≤ n) (hp1 : n ≤ 4096) (hp2 : l ≤ hgt n) (hp3 : j < cnt n l) (hp4 : w_ < 4) :
    Calls Try.prog 29 #[(vI n), (vA [(vI l), (vI j)]), (vI w_)] w (Ret fun r w' => ∃ (a0 : Int) (a1 : Int) (a2 : Int), r = (.tuple #[(vA [(.int .i64 a0), (.int .i64 a1)]), (.int .i64 a2)]) ∧ Ext w w') := by
  by_cases h : l = 0
  · skip
    refine (c_ChildLeaf n l j w_ w hp0 hp1 hp2 hp3 hp4 h).mono ?_
    rintro e w' ⟨v, rfl, hr, hE⟩
    exact ⟨v, rfl, _, _, _, hr, hE⟩
  by_cases h2 : 4 * j + w_ < und n l
  · skip
    refine (c_Child n l j w_ w hp0 hp1 hp2 hp3 hp4 h h2).mono ?_
    rintro e w' ⟨v, rfl, hr, hE⟩
    exact ⟨v, rfl, _, _, _, hr, hE⟩
  refine (c_ChildNone n l j w_ w hp0 hp1 hp2 hp3 hp4 h (by omega)).mono ?_
  rintro e w' ⟨v, rfl, hr, hE⟩
  exact ⟨v, rfl, _, _, _, hr, hE⟩

theorem c_OfAny (n : Nat) (s : Nat)  (w : World) (hp0 : 1 ≤ n) (hp1 : n ≤ 4096) (hp2 : s < bas n (hgt n + 1)) :
    Calls Try.prog 12 #[(vI n), (vI s)] w (Ret fun r w' => ∃ (a0 : Bool) (a1 : Int) (a2 : Int) (a3 : Int), r = (.tuple #[(vA [(.bool a0), (.int .i64 a1), (.int .i64 a2), (.int .i64 a3)]), (vI 0)]) ∧ Ext w w') := by
  by_cases h : s < 2 * n
  · refine (c_OfData n s w hp0 hp1 h).mono ?_
    rintro e w' ⟨v, rfl, hr, hE⟩
    exact ⟨v, rfl, _, _, _, _, hr, hE⟩
  · refine (c_OfNode n s w hp0 hp1 (by omega) hp2).mono ?_
    rintro e w' ⟨v, rfl, hr, hE⟩
    exact ⟨v, rfl, _, _, _, _, hr, hE⟩

theorem c_SE_lo (n : Int) (l : Int) (j : Int) (s : Int)  (w : World) (hp0 : n < 1) :
    Calls Try.prog 8 #[(vA [(.int .i64 n), (.int .i64 l), (.int .i64 j), (.int .i64 s)])] w (Ret fun r w' => r = vT ∧ Ext w w') := by
  refine calls_of (n := 390) (σ := [(0, (vA [(.int .i64 n), (.int .i64 l), (.int .i64 j), (.int .i64 s)]))]) Try.func8 rfl ?_
  refine wpC_seq (wpC_region (wpF_step (op_new (some 1) (Instr.box 58 (vA [(.int .i64 n), (.int .i64 l), (.int .i64 j), (.int .i64 s)])) (vP w.heap.size 0) ([(.int .i64 n), (.int .i64 l), (.int .i64 j), (.int .i64 s)]) 58 ?_)))
  intro w1 hBw1 hEw1
  have hzw1 := hEw1.size; have hlw1 := hBw1.lt
  refine wpF_run 1 [(2, vF)] (wpF_end (then_code (wpC_seq (wpC_drawM (Ext w1.drew) 12 [(32, 2, 0), (33, 2147483648, 1), (34, 2, 0), (35, 8589934592, 4), (36, 2, 0), (37, 34359738368, 16), (38, 2, 0), (39, 137438953472, 64), (4, 4294967296, 3), (5, 17179869184, 271), (6, 68719476736, 831), (7, 274877906944, 2047)] (fun hT15 => ?_)))))
  have hEw2 : Ext w1 w1.drew := Ext.drew w1
  generalize w1.drew = w2 at hEw2 ⊢
  have hzw2 := hEw2.size
  refine anyM_take hT15 0 1 (some 31) (vP w.heap.size 0) (yld_val (Instr.indexAt 58 (vP w.heap.size 0) (vI 0)) (fun w' hC => rn_ixa (E := 3) (sz := 1) (m := 4) (by omega))) (anyM_take hT15 1 3 (some 32) (.int .i64 n) (yld_val (Instr.loadAt 3 (vP w.heap.size 0)) (fun w' hC => rn_ld (((hBw1.ext hEw2).ext hC).cell rfl))) (anyM_take hT15 2 7 (some 33) (vP w.heap.size 1) (yld_val (Instr.indexAt 58 (vP w.heap.size 0) (vI 1)) (fun w' hC => rn_ixa (E := 3) (sz := 1) (m := 4) (by omega))) (anyM_take hT15 3 15 (some 34) (.int .i64 l) (yld_val (Instr.loadAt 3 (vP w.heap.size 1)) (fun w' hC => rn_ld (((hBw1.ext hEw2).ext hC).cell rfl))) (anyM_take hT15 4 31 (some 35) (vP w.heap.size 2) (yld_val (Instr.indexAt 58 (vP w.heap.size 0) (vI 2)) (fun w' hC => rn_ixa (E := 3) (sz := 1) (m := 4) (by omega))) (anyM_take hT15 5 63 (some 36) (.int .i64 j) (yld_val (Instr.loadAt 3 (vP w.heap.size 2)) (fun w' hC => rn_ld (((hBw1.ext hEw2).ext hC).cell rfl))) (anyM_take hT15 6 127 (some 37) (vP w.heap.size 3) (yld_val (Instr.indexAt 58 (vP w.heap.size 0) (vI 3)) (fun w' hC => rn_ixa (E := 3) (sz := 1) (m := 4) (by omega))) (anyM_take hT15 7 255 (some 38) (.int .i64 s) (yld_val (Instr.loadAt 3 (vP w.heap.size 3)) (fun w' hC => rn_ld (((hBw1.ext hEw2).ext hC).cell rfl))) (anyM_run hT15 [(8, 3, (.int .i64 n)), (9, 4, (.int .i64 l)), (10, 5, (.int .i64 j)), (11, 6, (.int .i64 s))] 4 4095 (anyM_done ?_)))))))))
  refine then_code (wpC_seq (wpC_region (wpF_run 1 [(39, (.int .i64 n))] (wpF_step (op_b (some 40) (decide (n ≥ ((1 : Nat) : Int))) false (cmpDF (by omega)) ?_)))))
  refine wpF_run 5 [(7, vF), (44, vF), (43, undef), (42, undef), (41, vF)] (wpF_end (then_code (wpC_seq (wpC_region (wpF_run 8 [(8, vF), (51, vF), (50, undef), (49, undef), (48, undef), (47, undef), (46, vF), (45, vF)] (wpF_end (then_code (wpC_seq (wpC_region ?_)))))))))
  refine wpF_run 1 [(53, (.int .i64 n))] (wpF_step (op_call (some 54) (c_HeightBad n _ (by (try simp only [Int.toNat_natCast]); omega)) ?_))
  rintro _ w3 ⟨rfl, hEw3⟩
  have hzw3 := hEw3.size
  refine wpF_run 5 [(10, (vI 1)), (9, (vI 0)), (56, (vI 1)), (55, (vI 0)), (52, (.tuple #[(vI 0), (vI 1)]))] (wpF_end (then_code (wpC_seq (wpC_region (wpF_run 1 [(58, (.int .i64 n))] (wpF_step (op_call (some 59) (c_TotalBad n _ (by (try simp only [Int.toNat_natCast]); omega)) ?_)))))))
  rintro _ w4 ⟨rfl, hEw4⟩
  have hzw4 := hEw4.size
  refine wpF_run 5 [(12, (vI 1)), (11, (vI 0)), (61, (vI 1)), (60, (vI 0)), (57, (.tuple #[(vI 0), (vI 1)]))] (wpF_end (then_code (wpC_seq (wpC_region (wpF_run 1 [(63, (.int .i64 n))] (wpF_step (op_call (some 64) (c_SectorsBad n _ (by (try simp only [Int.toNat_natCast]); omega)) ?_)))))))
  rintro _ w5 ⟨rfl, hEw5⟩
  have hzw5 := hEw5.size
  refine wpF_run 5 [(14, (vI 1)), (13, (vI 0)), (66, (vI 1)), (65, (vI 0)), (62, (.tuple #[(vI 0), (vI 1)]))] (wpF_end (then_code (wpC_seq (wpC_seq (wpC_region (wpF_run 18 [(84, (.int .i64 n)), (83, vF), (82, vF), (81, vF), (80, vF), (79, vF), (78, (vI 1)), (77, vF), (76, vF), (75, vF), (74, vF), (73, vF), (72, (vI 1)), (71, vF), (70, vF), (69, vF), (68, vF), (67, (vI 1))] (wpF_step (op_call (some 85) (c_CheckBad n _ (by (try simp only [Int.toNat_natCast]); omega)) ?_))))))))
  rintro _ _ ⟨rfl, rfl⟩
  refine wpF_run 21 [(106, vF), (105, vF), (104, vF), (103, (vI 1)), (102, vT), (101, vT), (100, vF), (99, vF), (98, vF), (97, vF), (96, (vI 1)), (95, (vI 1)), (94, vF), (93, vF), (92, vF), (91, (vI 1)), (90, (vI 1)), (89, vF), (88, vF), (87, vF), (86, (vI 1))] (wpF_end (then_code (wpC_false (wpC_skip (then_code (wpC_seq (wpC_region (wpF_run 2 [(109, (.int .i64 l)), (108, (.int .i64 n))] (wpF_step (op_call (some 110) (c_CountBad n l _ (by (try simp only [Int.toNat_natCast]); omega)) ?_))))))))))
  rintro _ w6 ⟨rfl, hEw6⟩
  have hzw6 := hEw6.size
  refine wpF_run 5 [(16, (vI 1)), (15, (vI 0)), (112, (vI 1)), (111, (vI 0)), (107, (.tuple #[(vI 0), (vI 1)]))] (wpF_end (then_code (wpC_seq (wpC_seq (wpC_region (wpF_run 21 [(133, vF), (132, vF), (131, vF), (130, vF), (129, (vI 0)), (128, vF), (127, vF), (126, (vI 1)), (125, vT), (124, vT), (123, (vI 1)), (122, vF), (121, vF), (120, vF), (119, undef), (118, undef), (117, undef), (116, vF), (115, vF), (114, vF), (113, (vI 1))] (wpF_end (then_code (wpC_false ?_)))))))))
  refine wpC_skip (then_code (wpC_seq (wpC_region (wpF_run 3 [(137, (.int .i64 j)), (136, (.int .i64 l)), (135, (.int .i64 n))] (wpF_step (op_call (some 138) (c_PartsBad n l j _ (by (try simp only [Int.toNat_natCast]); omega)) ?_))))))
  rintro _ w7 ⟨rfl, hEw7⟩
  have hzw7 := hEw7.size
  refine wpF_run 5 [(16, (vI 1)), (15, (vI 0)), (140, (vI 1)), (139, (vI 0)), (134, (.tuple #[(vI 0), (vI 1)]))] (wpF_end (then_code (wpC_seq (wpC_region (wpF_run 3 [(144, (.int .i64 j)), (143, (.int .i64 l)), (142, (.int .i64 n))] (wpF_step (op_call (some 145) (c_placeZ l j _) ?_)))))))
  rintro _ w8 ⟨rfl, hEw8⟩
  have hzw8 := hEw8.size
  refine wpF_step (op_call (some 146) (c_BlocksBad n l j _ (by (try simp only [Int.toNat_natCast]); omega)) ?_)
  rintro _ w9 ⟨rfl, hEw9⟩
  have hzw9 := hEw9.size
  refine wpF_run 7 [(19, (vI 1)), (18, (vI 0)), (17, (vI 0)), (149, (vI 1)), (148, (vI 0)), (147, (vI 0)), (141, (.tuple #[(vI 0), (vI 0), (vI 1)]))] (wpF_end (then_code (wpC_seq (wpC_region (wpF_run 4 [(154, (.int .i64 s)), (153, (.int .i64 j)), (152, (.int .i64 l)), (151, (.int .i64 n))] (wpF_step (op_call (some 155) (c_NodeBad n l j s _ (by (try simp only [Int.toNat_natCast]); omega)) ?_)))))))
  rintro _ w10 ⟨rfl, hEw10⟩
  have hzw10 := hEw10.size
  refine wpF_run 5 [(21, (vI 1)), (20, (vI 0)), (157, (vI 1)), (156, (vI 0)), (150, (.tuple #[(vI 0), (vI 1)]))] (wpF_end (then_code (wpC_seq (wpC_seq (wpC_region (wpF_run 24 [(181, vF), (180, vF), (179, vF), (178, undef), (177, undef), (176, undef), (175, undef), (174, undef), (173, undef), (172, vF), (171, vF), (170, vF), (169, (vI 1)), (168, vF), (167, vF), (166, vF), (165, vF), (164, vF), (163, (vI 1)), (162, vF), (161, vF), (160, vF), (159, vF), (158, (vI 1))] (wpF_end (then_code (wpC_false ?_)))))))))
  refine wpC_skip (then_code (wpC_seq (wpC_seq (wpC_region (wpF_run 34 [(215, vF), (214, vF), (213, vF), (212, vF), (211, (vI 0)), (210, vF), (209, vF), (208, (vI 1)), (207, vT), (206, vT), (205, (vI 1)), (204, vF), (203, vF), (202, vF), (201, vF), (200, (vI 0)), (199, vF), (198, vF), (197, vF), (196, (vI 0)), (195, vF), (194, vF), (193, vF), (192, (vI 0)), (191, vF), (190, vF), (189, vF), (188, (vI 1)), (187, vF), (186, vF), (185, (vI 1)), (184, vT), (183, vT), (182, (vI 1))] (wpF_end (then_code (wpC_false (wpC_skip ?_)))))))))
  refine then_code (wpC_seq (wpC_region (wpF_run 3 [(219, (.int .i64 j)), (218, (.int .i64 l)), (217, (.int .i64 n))] (wpF_step (op_call (some 220) (c_placeZ l j _) ?_)))))
  rintro _ w11 ⟨rfl, hEw11⟩
  have hzw11 := hEw11.size
  refine wpF_step (op_call (some 221) (c_ParentBad n l j _ (by (try simp only [Int.toNat_natCast]); omega)) ?_)
  rintro _ w12 ⟨rfl, hEw12⟩
  have hzw12 := hEw12.size
  refine wpF_run 4 [(224, (vI 1)), (223, (vI 0)), (222, (vA [(vI 0), (vI 0)])), (216, (.tuple #[(vA [(vI 0), (vI 0)]), (vI 0), (vI 1)]))] (wpF_step (op_new (some 22) (Instr.alloc 45 true (.tuple #[])) (vP w12.heap.size 0) ([(vI 0), (vI 0)]) 45 ?_))
  intro w13 hBw13 hEw13
  have hzw13 := hEw13.size; have hlw13 := hBw13.lt
  refine wpF_step (op_store 45 w12.heap.size 0 45 (vA [(vI 0), (vI 0)]) ([(vI 0), (vI 0)]) ([(vI 0), (vI 0)]) hBw13 (by kernel_rfl) (by first | decide | (simp; done) | (simp; omega)) (by simp [Value.oneCell']) ?_)
  intro w14 hBw14 hCw14
  have hzw14 := hCw14.size
  rw [setFrom_all _ _ (by kernel_rfl)] at hBw14
  refine wpF_run 2 [(24, (vI 1)), (23, (vI 0))] (wpF_end (then_code (wpC_seq (wpC_region (wpF_run 3 [(228, (.int .i64 j)), (227, (.int .i64 l)), (226, (.int .i64 n))] (wpF_step (op_call (some 229) (c_placeZ l j _) ?_)))))))
  rintro _ w15 ⟨rfl, hEw15⟩
  have hzw15 := hEw15.size
  refine wpF_run 1 [(230, (.int .i64 s))] (wpF_step (op_call (some 231) (c_ChildBad n l j s _ (by (try simp only [Int.toNat_natCast]); omega)) ?_))
  rintro _ w16 ⟨rfl, hEw16⟩
  have hzw16 := hEw16.size
  refine wpF_run 3 [(233, (vI 1)), (232, (vA [(vI 0), (vI 0)])), (225, (.tuple #[(vA [(vI 0), (vI 0)]), (vI 1)]))] (wpF_step (op_new (some 25) (Instr.alloc 45 true (.tuple #[])) (vP w16.heap.size 0) ([(vI 0), (vI 0)]) 45 ?_))
  intro w17 hBw17 hEw17
  have hzw17 := hEw17.size; have hlw17 := hBw17.lt
  refine wpF_step (op_store 45 w16.heap.size 0 45 (vA [(vI 0), (vI 0)]) ([(vI 0), (vI 0)]) ([(vI 0), (vI 0)]) hBw17 (by kernel_rfl) (by first | decide | (simp; done) | (simp; omega)) (by simp [Value.oneCell']) ?_)
  intro w18 hBw18 hCw18
  have hzw18 := hCw18.size
  rw [setFrom_all _ _ (by kernel_rfl)] at hBw18
  refine wpF_run 1 [(26, (vI 1))] (wpF_end (then_code (wpC_seq (wpC_seq ?_))))
  refine wpC_drawM (Ext w18.drew) 36 [(235, 256, 0), (236, 27606985387162255149739023449108101809804435888681546220650096895197184, 1), (237, 55213970774324510299478046898216203619608871777363092441300193790394368, 2), (238, 110427941548649020598956093796432407239217743554726184882600387597565952, 4), (239, 331283824645947061796868281389297221717653230664178554647801162742366208, 12), (240, 552139707743245102994780468982162036196088717773630924413001937903943680, 20), (241, 883423532389192164791648750371459257913741948437809479060803100650504192, 32), (242, 883423532389192164791648750371459257913741948437809479060803100646309888, 32), (243, 6183964726724345153541541252600214805396193639064666353425621704524169216, 224), (244, 8061239733051378503723794847139565728462895279495011496429828293397577728, 292), (245, 14245204459775723657265336099739780533859088918559677849855449997921746944, 644), (246, 28269553036454149273332760011886696253239742350009903329945699220690305024, 1024), (247, 84808659109362447819998280035660088759719227050029709989837097662045749248, 3072), (248, 141458193123819395387262756153229913673437929493604242834611096490990370816, 5124), (249, 226266852233181843207261036188890002433157156543633952824448194153036120064, 8196), (250, 452312848583266388373324160190187140051835877600158453279131187530910662656, 17408), (251, 904625697166532776746648320380374280103671755200316906558262375061821325568, 32768), (252, 2713877091499598330239944961141122840311015265600950719674787125185463975936, 98304), (253, 4523128485832663883733241601901871400518358776001584532791311875309106626560, 163840), (254, 7237005577332262213973186563042994240829374041602535252466099000494570602560, 262144), (255, 21711016731996786641919559689128982722488122124807605757398297001483711807488, 786432), (256, 37089653583827843846612581135595345484250541963212993168888757377534674337792, 1343488), (257, 58800670315824630488532140824724328206738664088020598926287054379018386145280, 2392064), (258, 115792089237316195423570985008687907853269984665640564039457584007913129640000, 4194304), (259, 347376267711948586270712955026063723559809953996921692118372752023739388919808, 12582912), (260, 579865071883747509894601573363819913546453595083403137103846182414627469524992, 21004288), (261, 927241339595696096165314528389883637106263549080324829222218934438366858444800, 37781504), (262, 1852673427797059126777135760139006525652319754650249024631321344126610141347840, 67108864), (263, 5558020283391177380331407280417019576956959263950747073893964032379830222716928, 201326592), (264, 9263367138985295633885678800695032628261598773251245123156606720633050371194880, 335544320), (265, 14821387422376473014217086081112052205218558037201992197050570753012880627466240, 536870912), (266, 14821387422376473014217086081112052205218558037201992197050570753012880593911808, 536870912), (267, 103749711956635311099519602567784365436529906260413945379353995271090164157382656, 3758096384), (268, 135245160229185316254730910490147476372619342089468178798086458121242535419445248, 4898947072), (269, 238995776811517793887027259706252222183429352021637324494347011654707761398153216, 8657076224), (270, 474285302141744302987723501243906050941273960862218950622524822358787240826503168, 17179901952)] (fun hT190 => ?_)
  have hEw19 : Ext w18 w18.drew := Ext.drew w18
  generalize w18.drew = w19 at hEw19 ⊢
  have hzw19 := hEw19.size
  refine anyM_run hT190 [(0, 234, vF), (1, 235, vT), (2, 236, vT), (3, 237, (vI 1)), (4, 238, vF), (5, 239, vF)] 6 63 ?_
  have hK1 := (((((((((hBw14.ext hEw15)).ext hEw16)).ext hEw17)).chg hCw18 (fun hs => by have h : _ = _ := hs; omega))).ext hEw19)
  refine anyM_take hT190 6 127 (some 240) (vA [(vI 0), (vI 0)]) (yld_val (Instr.loadAt 45 (vP w12.heap.size 0)) (fun w' hC => rn_lda (vs := [(vI 0), (vI 0)]) ((hK1.ext hC).all))) (anyM_one 7 255 (op_call (some 241) (c_place 0 0 _) ?_))
  rintro _ w20 ⟨rfl, hEw20⟩
  have hzw20 := hEw20.size
  refine ⟨.inr hEw20, ?_⟩
  refine anyM_take (hw := show Ext w19 w20 from hEw20) hT190 8 511 (some 242) vF (yld_val (bo .neq 45 (.tmp 240) (.tmp 241) (vA [(vI 0), (vI 0)]) (vA [(vI 0), (vI 0)])) (fun w' hC => run_neqAgg (r := true) (T := 45) ((run_eq_flat (dd := 9998) (t := 45) [(vI 0), (vI 0)] [(vI 0), (vI 0)]).trans (congrArg (fun b => Result.ok b _) (show (eqvs [(vI 0), (vI 0)] [(vI 0), (vI 0)]) = true from by rfl))))) (anyM_run (hw := show Ext w19 w20 from hEw20) hT190 [(9, 243, vF), (10, 244, vF), (11, 245, (vI 0)), (12, 246, vF), (13, 247, vF), (14, 248, vF), (15, 249, vF), (16, 250, vF), (17, 251, vT), (18, 252, vT), (19, 253, undef), (20, 254, undef), (21, 255, vT), (22, 256, vT), (23, 257, undef), (24, 258, undef), (25, 259, vT), (26, 260, vT), (27, 261, (vI 1)), (28, 262, vF), (29, 263, vF)] 21 1073741823 (anyM_take (hw := show Ext w19 w20 from hEw20) hT190 30 2147483647 (some 264) (vA [(vI 0), (vI 0)]) (yld_val (Instr.loadAt 45 (vP w16.heap.size 0)) (fun w' hC => rn_lda (vs := [(vI 0), (vI 0)]) (((hBw18.ext hEw19).ext hC).all))) (anyM_one 31 4294967295 (op_call (some 265) (c_place 0 0 _) ?_))))
  rintro _ w21 ⟨rfl, hEw21⟩
  have hzw21 := hEw21.size
  refine ⟨.inr (hEw20.trans hEw21), ?_⟩
  refine anyM_take (hw := show Ext w19 w21 from (hEw20.trans hEw21)) hT190 32 8589934591 (some 266) vF (yld_val (bo .neq 45 (.tmp 264) (.tmp 265) (vA [(vI 0), (vI 0)]) (vA [(vI 0), (vI 0)])) (fun w' hC => run_neqAgg (r := true) (T := 45) ((run_eq_flat (dd := 9998) (t := 45) [(vI 0), (vI 0)] [(vI 0), (vI 0)]).trans (congrArg (fun b => Result.ok b _) (show (eqvs [(vI 0), (vI 0)] [(vI 0), (vI 0)]) = true from by rfl))))) (anyM_run (hw := show Ext w19 w21 from (hEw20.trans hEw21)) hT190 [(33, 267, vF), (34, 268, vF), (35, 269, vF)] 3 68719476735 (anyM_done (then_code (wpC_false (wpC_skip (then_code (wpC_seq (wpC_region (wpF_run 11 [(27, vF), (279, vF), (278, undef), (277, undef), (276, undef), (275, vF), (274, vF), (273, undef), (272, undef), (271, vF), (270, vF)] ?_)))))))))
  refine wpF_end (then_code (wpC_seq (wpC_region (wpF_run 2 [(282, (.int .i64 j)), (281, (.int .i64 n))] (wpF_step (op_call (some 283) (c_PathBad n j _ (by (try simp only [Int.toNat_natCast]); omega)) ?_))))))
  rintro _ w22 ⟨rfl, hEw22⟩
  have hzw22 := hEw22.size
  refine wpF_run 5 [(16, (vI 1)), (28, (.slice none 0 0)), (285, (vI 1)), (284, (.slice none 0 0)), (280, (.tuple #[(.slice none 0 0), (vI 1)]))] (wpF_end (then_code (wpC_seq (wpC_region (wpF_run 2 [(288, (.int .i64 j)), (287, (.int .i64 n))] (wpF_step (op_call (some 289) (c_GroupBad n j _ (by (try simp only [Int.toNat_natCast]); omega)) ?_)))))))
  rintro _ w23 ⟨rfl, hEw23⟩
  have hzw23 := hEw23.size
  refine wpF_run 5 [(19, (vI 1)), (292, (vI 1)), (291, (vI 0)), (290, (vA [(vI 0), (vI 0)])), (286, (.tuple #[(vA [(vI 0), (vI 0)]), (vI 0), (vI 1)]))] (wpF_end (then_code (wpC_seq (wpC_region (wpF_run 3 [(296, (.int .i64 s)), (295, (.int .i64 j)), (294, (.int .i64 n))] (wpF_step (op_call (some 297) (c_DataBad n j s _ (by (try simp only [Int.toNat_natCast]); omega)) ?_)))))))
  rintro _ w24 ⟨rfl, hEw24⟩
  have hzw24 := hEw24.size
  refine wpF_run 5 [(21, (vI 1)), (20, (vI 0)), (299, (vI 1)), (298, (vI 0)), (293, (.tuple #[(vI 0), (vI 1)]))] (wpF_end (then_code (wpC_seq (wpC_seq (wpC_region (wpF_run 54 [(353, vF), (352, vF), (351, vF), (350, vF), (349, (vI 0)), (348, vF), (347, vF), (346, (vI 1)), (345, vT), (344, vT), (343, (vI 1)), (342, vF), (341, vF), (340, vF), (339, vF), (338, vF), (337, (vI 1)), (336, (vI 1)), (335, vF), (334, vF), (333, vF), (332, (vI 1)), (331, vF), (330, vF), (329, (vI 0)), (328, (.slice none 0 0)), (327, vT), (326, vT), (325, (vI 1)), (324, vF), (323, vF), (322, vF), (321, vF), (320, undef), (319, undef), (318, undef), (317, undef), (316, undef), (315, undef), (314, vF), (313, vF), (312, vF), (311, (vI 1)), (310, vF), (309, vF), (308, vF), (307, vF), (306, vF), (305, (vI 1)), (304, vF), (303, vF), (302, vF), (301, vF), (300, (vI 1))] (wpF_end (then_code (wpC_false ?_)))))))))
  refine wpC_skip (then_code (wpC_seq (wpC_region (wpF_run 2 [(356, (.int .i64 j)), (355, (.int .i64 n))] (wpF_step (op_call (some 357) (c_OfBad n j _ (by (try simp only [Int.toNat_natCast]); omega)) ?_))))))
  rintro _ w25 ⟨rfl, hEw25⟩
  have hzw25 := hEw25.size
  refine wpF_run 3 [(359, (vI 1)), (358, (vA [vF, (vI 0), (vI 0), (vI 0)])), (354, (.tuple #[(vA [vF, (vI 0), (vI 0), (vI 0)]), (vI 1)]))] (wpF_step (op_new (some 29) (Instr.alloc 31 true (.tuple #[])) (vP w25.heap.size 0) ([vF, (vI 0), (vI 0), (vI 0)]) 31 ?_))
  intro w26 hBw26 hEw26
  have hzw26 := hEw26.size; have hlw26 := hBw26.lt
  refine wpF_step (op_store 31 w25.heap.size 0 31 (vA [vF, (vI 0), (vI 0), (vI 0)]) ([vF, (vI 0), (vI 0), (vI 0)]) ([vF, (vI 0), (vI 0), (vI 0)]) hBw26 (by kernel_rfl) (by first | decide | (simp; done) | (simp; omega)) (by simp [Value.oneCell']) ?_)
  intro w27 hBw27 hCw27
  have hzw27 := hCw27.size
  rw [setFrom_all _ _ (by kernel_rfl)] at hBw27
  refine wpF_run 1 [(16, (vI 1))] (wpF_end (then_code (wpC_seq (wpC_region (wpF_run 12 [(30, vF), (370, vF), (369, undef), (368, undef), (367, undef), (366, undef), (365, vF), (364, vF), (363, undef), (362, undef), (361, vF), (360, vF)] (wpF_end (then_code (wpC_seq (wpC_region ?_)))))))))
  refine wpF_run 10 [(380, vT), (379, vT), (378, (vI 1)), (377, vF), (376, vF), (375, vT), (374, vT), (373, vF), (372, vF), (371, (vI 1))] (wpF_step (op_v (some 381) (Instr.loadAt 31 (vP w25.heap.size 0)) (vA [vF, (vI 0), (vI 0), (vI 0)]) (rn_lda (vs := [vF, (vI 0), (vI 0), (vI 0)]) (hBw27.all)) ?_))
  refine wpF_run 1 [(382, (vA [vF, (vI 0), (vI 0), (vI 0)]))] (wpF_step (op_v (some 383) (bo .eql 31 (.tmp 381) (.tmp 382) (vA [vF, (vI 0), (vI 0), (vI 0)]) (vA [vF, (vI 0), (vI 0), (vI 0)])) vT (run_eqlAgg (r := true) (T := 31) ((run_eq_flat (dd := 9998) (t := 31) [vF, (vI 0), (vI 0), (vI 0)] [vF, (vI 0), (vI 0), (vI 0)]).trans (congrArg (fun b => Result.ok b _) (show (eqvs [vF, (vI 0), (vI 0), (vI 0)] [vF, (vI 0), (vI 0), (vI 0)]) = true from by rfl)))) ?_))
  refine wpF_run 4 [(387, vT), (386, vT), (385, vT), (384, vT)] (wpF_step (op_call (some 388) (c_lives12 _) ?_))
  rintro _ w28 ⟨rfl, hEw28⟩
  have hzw28 := hEw28.size
  refine wpF_run 2 [(2, vT), (389, vT)] (wpF_end (then_code (wpC_ret (body_rets vT ?_))))
  have hX1 : Ext w w28 := ((Ext.own (((((((((Ext.own ((((Ext.own ((((((((((((hEw1.trans hEw2).trans hEw3).trans hEw4).trans hEw5).trans hEw6).trans hEw7).trans hEw8).trans hEw9).trans hEw10).trans hEw11).trans hEw12).trans hEw13) hCw14 (by omega)).trans hEw15).trans hEw16).trans hEw17) hCw18 (by omega)).trans hEw19).trans hEw20).trans hEw21).trans hEw22).trans hEw23).trans hEw24).trans hEw25).trans hEw26) hCw27 (by omega)).trans hEw28)
  exact ⟨rfl, hX1⟩

theorem c_SE_hi (n : Int) (l : Int) (j : Int) (s : Int)  (w : World) (hp0 : 4096 < n) :
    Calls Try.prog 8 #[(vA [(.int .i64 n), (.int .i64 l), (.int .i64 j), (.int .i64 s)])] w (Ret fun r w' => r = vT ∧ Ext w w') := by
  refine calls_of (n := 390) (σ := [(0, (vA [(.int .i64 n), (.int .i64 l), (.int .i64 j), (.int .i64 s)]))]) Try.func8 rfl ?_
  refine wpC_seq (wpC_region (wpF_step (op_new (some 1) (Instr.box 58 (vA [(.int .i64 n), (.int .i64 l), (.int .i64 j), (.int .i64 s)])) (vP w.heap.size 0) ([(.int .i64 n), (.int .i64 l), (.int .i64 j), (.int .i64 s)]) 58 ?_)))
  intro w1 hBw1 hEw1
  have hzw1 := hEw1.size; have hlw1 := hBw1.lt
  refine wpF_run 1 [(2, vF)] (wpF_end (then_code (wpC_seq (wpC_drawM (Ext w1.drew) 12 [(32, 2, 0), (33, 2147483648, 1), (34, 2, 0), (35, 8589934592, 4), (36, 2, 0), (37, 34359738368, 16), (38, 2, 0), (39, 137438953472, 64), (4, 4294967296, 3), (5, 17179869184, 271), (6, 68719476736, 831), (7, 274877906944, 2047)] (fun hT129 => ?_)))))
  have hEw2 : Ext w1 w1.drew := Ext.drew w1
  generalize w1.drew = w2 at hEw2 ⊢
  have hzw2 := hEw2.size
  refine anyM_take hT129 0 1 (some 31) (vP w.heap.size 0) (yld_val (Instr.indexAt 58 (vP w.heap.size 0) (vI 0)) (fun w' hC => rn_ixa (E := 3) (sz := 1) (m := 4) (by omega))) (anyM_take hT129 1 3 (some 32) (.int .i64 n) (yld_val (Instr.loadAt 3 (vP w.heap.size 0)) (fun w' hC => rn_ld (((hBw1.ext hEw2).ext hC).cell rfl))) (anyM_take hT129 2 7 (some 33) (vP w.heap.size 1) (yld_val (Instr.indexAt 58 (vP w.heap.size 0) (vI 1)) (fun w' hC => rn_ixa (E := 3) (sz := 1) (m := 4) (by omega))) (anyM_take hT129 3 15 (some 34) (.int .i64 l) (yld_val (Instr.loadAt 3 (vP w.heap.size 1)) (fun w' hC => rn_ld (((hBw1.ext hEw2).ext hC).cell rfl))) (anyM_take hT129 4 31 (some 35) (vP w.heap.size 2) (yld_val (Instr.indexAt 58 (vP w.heap.size 0) (vI 2)) (fun w' hC => rn_ixa (E := 3) (sz := 1) (m := 4) (by omega))) (anyM_take hT129 5 63 (some 36) (.int .i64 j) (yld_val (Instr.loadAt 3 (vP w.heap.size 2)) (fun w' hC => rn_ld (((hBw1.ext hEw2).ext hC).cell rfl))) (anyM_take hT129 6 127 (some 37) (vP w.heap.size 3) (yld_val (Instr.indexAt 58 (vP w.heap.size 0) (vI 3)) (fun w' hC => rn_ixa (E := 3) (sz := 1) (m := 4) (by omega))) (anyM_take hT129 7 255 (some 38) (.int .i64 s) (yld_val (Instr.loadAt 3 (vP w.heap.size 3)) (fun w' hC => rn_ld (((hBw1.ext hEw2).ext hC).cell rfl))) (anyM_run hT129 [(8, 3, (.int .i64 n)), (9, 4, (.int .i64 l)), (10, 5, (.int .i64 j)), (11, 6, (.int .i64 s))] 4 4095 (anyM_done ?_)))))))))
  refine then_code (wpC_seq (wpC_region (wpF_run 1 [(39, (.int .i64 n))] (wpF_step (op_b (some 40) (decide (n ≥ ((1 : Nat) : Int))) true (cmpDT (by omega)) ?_)))))
  refine wpF_run 2 [(42, (.int .i64 n)), (41, vT)] (wpF_step (op_b (some 43) (decide (n ≤ ((4096 : Nat) : Int))) false (cmpDF (by omega)) ?_))
  refine wpF_run 2 [(7, vF), (44, vF)] (wpF_end (then_code (wpC_seq (wpC_region (wpF_run 8 [(8, vF), (51, vF), (50, undef), (49, undef), (48, undef), (47, undef), (46, vF), (45, vF)] (wpF_end (then_code (wpC_seq (wpC_region ?_)))))))))
  refine wpF_run 1 [(53, (.int .i64 n))] (wpF_step (op_call (some 54) (c_HeightBad n _ (by (try simp only [Int.toNat_natCast]); omega)) ?_))
  rintro _ w3 ⟨rfl, hEw3⟩
  have hzw3 := hEw3.size
  refine wpF_run 5 [(10, (vI 1)), (9, (vI 0)), (56, (vI 1)), (55, (vI 0)), (52, (.tuple #[(vI 0), (vI 1)]))] (wpF_end (then_code (wpC_seq (wpC_region (wpF_run 1 [(58, (.int .i64 n))] (wpF_step (op_call (some 59) (c_TotalBad n _ (by (try simp only [Int.toNat_natCast]); omega)) ?_)))))))
  rintro _ w4 ⟨rfl, hEw4⟩
  have hzw4 := hEw4.size
  refine wpF_run 5 [(12, (vI 1)), (11, (vI 0)), (61, (vI 1)), (60, (vI 0)), (57, (.tuple #[(vI 0), (vI 1)]))] (wpF_end (then_code (wpC_seq (wpC_region (wpF_run 1 [(63, (.int .i64 n))] (wpF_step (op_call (some 64) (c_SectorsBad n _ (by (try simp only [Int.toNat_natCast]); omega)) ?_)))))))
  rintro _ w5 ⟨rfl, hEw5⟩
  have hzw5 := hEw5.size
  refine wpF_run 5 [(14, (vI 1)), (13, (vI 0)), (66, (vI 1)), (65, (vI 0)), (62, (.tuple #[(vI 0), (vI 1)]))] (wpF_end (then_code (wpC_seq (wpC_seq (wpC_region (wpF_run 18 [(84, (.int .i64 n)), (83, vF), (82, vF), (81, vF), (80, vF), (79, vF), (78, (vI 1)), (77, vF), (76, vF), (75, vF), (74, vF), (73, vF), (72, (vI 1)), (71, vF), (70, vF), (69, vF), (68, vF), (67, (vI 1))] (wpF_step (op_call (some 85) (c_CheckBad n _ (by (try simp only [Int.toNat_natCast]); omega)) ?_))))))))
  rintro _ _ ⟨rfl, rfl⟩
  refine wpF_run 21 [(106, vF), (105, vF), (104, vF), (103, (vI 1)), (102, vT), (101, vT), (100, vF), (99, vF), (98, vF), (97, vF), (96, (vI 1)), (95, (vI 1)), (94, vF), (93, vF), (92, vF), (91, (vI 1)), (90, (vI 1)), (89, vF), (88, vF), (87, vF), (86, (vI 1))] (wpF_end (then_code (wpC_false (wpC_skip (then_code (wpC_seq (wpC_region (wpF_run 2 [(109, (.int .i64 l)), (108, (.int .i64 n))] (wpF_step (op_call (some 110) (c_CountBad n l _ (by (try simp only [Int.toNat_natCast]); omega)) ?_))))))))))
  rintro _ w6 ⟨rfl, hEw6⟩
  have hzw6 := hEw6.size
  refine wpF_run 5 [(16, (vI 1)), (15, (vI 0)), (112, (vI 1)), (111, (vI 0)), (107, (.tuple #[(vI 0), (vI 1)]))] (wpF_end (then_code (wpC_seq (wpC_seq (wpC_region (wpF_run 21 [(133, vF), (132, vF), (131, vF), (130, vF), (129, (vI 0)), (128, vF), (127, vF), (126, (vI 1)), (125, vT), (124, vT), (123, (vI 1)), (122, vF), (121, vF), (120, vF), (119, undef), (118, undef), (117, undef), (116, vF), (115, vF), (114, vF), (113, (vI 1))] (wpF_end (then_code (wpC_false ?_)))))))))
  refine wpC_skip (then_code (wpC_seq (wpC_region (wpF_run 3 [(137, (.int .i64 j)), (136, (.int .i64 l)), (135, (.int .i64 n))] (wpF_step (op_call (some 138) (c_PartsBad n l j _ (by (try simp only [Int.toNat_natCast]); omega)) ?_))))))
  rintro _ w7 ⟨rfl, hEw7⟩
  have hzw7 := hEw7.size
  refine wpF_run 5 [(16, (vI 1)), (15, (vI 0)), (140, (vI 1)), (139, (vI 0)), (134, (.tuple #[(vI 0), (vI 1)]))] (wpF_end (then_code (wpC_seq (wpC_region (wpF_run 3 [(144, (.int .i64 j)), (143, (.int .i64 l)), (142, (.int .i64 n))] (wpF_step (op_call (some 145) (c_placeZ l j _) ?_)))))))
  rintro _ w8 ⟨rfl, hEw8⟩
  have hzw8 := hEw8.size
  refine wpF_step (op_call (some 146) (c_BlocksBad n l j _ (by (try simp only [Int.toNat_natCast]); omega)) ?_)
  rintro _ w9 ⟨rfl, hEw9⟩
  have hzw9 := hEw9.size
  refine wpF_run 7 [(19, (vI 1)), (18, (vI 0)), (17, (vI 0)), (149, (vI 1)), (148, (vI 0)), (147, (vI 0)), (141, (.tuple #[(vI 0), (vI 0), (vI 1)]))] (wpF_end (then_code (wpC_seq (wpC_region (wpF_run 4 [(154, (.int .i64 s)), (153, (.int .i64 j)), (152, (.int .i64 l)), (151, (.int .i64 n))] (wpF_step (op_call (some 155) (c_NodeBad n l j s _ (by (try simp only [Int.toNat_natCast]); omega)) ?_)))))))
  rintro _ w10 ⟨rfl, hEw10⟩
  have hzw10 := hEw10.size
  refine wpF_run 5 [(21, (vI 1)), (20, (vI 0)), (157, (vI 1)), (156, (vI 0)), (150, (.tuple #[(vI 0), (vI 1)]))] (wpF_end (then_code (wpC_seq (wpC_seq (wpC_region (wpF_run 24 [(181, vF), (180, vF), (179, vF), (178, undef), (177, undef), (176, undef), (175, undef), (174, undef), (173, undef), (172, vF), (171, vF), (170, vF), (169, (vI 1)), (168, vF), (167, vF), (166, vF), (165, vF), (164, vF), (163, (vI 1)), (162, vF), (161, vF), (160, vF), (159, vF), (158, (vI 1))] (wpF_end (then_code (wpC_false ?_)))))))))
  refine wpC_skip (then_code (wpC_seq (wpC_seq (wpC_region (wpF_run 34 [(215, vF), (214, vF), (213, vF), (212, vF), (211, (vI 0)), (210, vF), (209, vF), (208, (vI 1)), (207, vT), (206, vT), (205, (vI 1)), (204, vF), (203, vF), (202, vF), (201, vF), (200, (vI 0)), (199, vF), (198, vF), (197, vF), (196, (vI 0)), (195, vF), (194, vF), (193, vF), (192, (vI 0)), (191, vF), (190, vF), (189, vF), (188, (vI 1)), (187, vF), (186, vF), (185, (vI 1)), (184, vT), (183, vT), (182, (vI 1))] (wpF_end (then_code (wpC_false (wpC_skip ?_)))))))))
  refine then_code (wpC_seq (wpC_region (wpF_run 3 [(219, (.int .i64 j)), (218, (.int .i64 l)), (217, (.int .i64 n))] (wpF_step (op_call (some 220) (c_placeZ l j _) ?_)))))
  rintro _ w11 ⟨rfl, hEw11⟩
  have hzw11 := hEw11.size
  refine wpF_step (op_call (some 221) (c_ParentBad n l j _ (by (try simp only [Int.toNat_natCast]); omega)) ?_)
  rintro _ w12 ⟨rfl, hEw12⟩
  have hzw12 := hEw12.size
  refine wpF_run 4 [(224, (vI 1)), (223, (vI 0)), (222, (vA [(vI 0), (vI 0)])), (216, (.tuple #[(vA [(vI 0), (vI 0)]), (vI 0), (vI 1)]))] (wpF_step (op_new (some 22) (Instr.alloc 45 true (.tuple #[])) (vP w12.heap.size 0) ([(vI 0), (vI 0)]) 45 ?_))
  intro w13 hBw13 hEw13
  have hzw13 := hEw13.size; have hlw13 := hBw13.lt
  refine wpF_step (op_store 45 w12.heap.size 0 45 (vA [(vI 0), (vI 0)]) ([(vI 0), (vI 0)]) ([(vI 0), (vI 0)]) hBw13 (by kernel_rfl) (by first | decide | (simp; done) | (simp; omega)) (by simp [Value.oneCell']) ?_)
  intro w14 hBw14 hCw14
  have hzw14 := hCw14.size
  rw [setFrom_all _ _ (by kernel_rfl)] at hBw14
  refine wpF_run 2 [(24, (vI 1)), (23, (vI 0))] (wpF_end (then_code (wpC_seq (wpC_region (wpF_run 3 [(228, (.int .i64 j)), (227, (.int .i64 l)), (226, (.int .i64 n))] (wpF_step (op_call (some 229) (c_placeZ l j _) ?_)))))))
  rintro _ w15 ⟨rfl, hEw15⟩
  have hzw15 := hEw15.size
  refine wpF_run 1 [(230, (.int .i64 s))] (wpF_step (op_call (some 231) (c_ChildBad n l j s _ (by (try simp only [Int.toNat_natCast]); omega)) ?_))
  rintro _ w16 ⟨rfl, hEw16⟩
  have hzw16 := hEw16.size
  refine wpF_run 3 [(233, (vI 1)), (232, (vA [(vI 0), (vI 0)])), (225, (.tuple #[(vA [(vI 0), (vI 0)]), (vI 1)]))] (wpF_step (op_new (some 25) (Instr.alloc 45 true (.tuple #[])) (vP w16.heap.size 0) ([(vI 0), (vI 0)]) 45 ?_))
  intro w17 hBw17 hEw17
  have hzw17 := hEw17.size; have hlw17 := hBw17.lt
  refine wpF_step (op_store 45 w16.heap.size 0 45 (vA [(vI 0), (vI 0)]) ([(vI 0), (vI 0)]) ([(vI 0), (vI 0)]) hBw17 (by kernel_rfl) (by first | decide | (simp; done) | (simp; omega)) (by simp [Value.oneCell']) ?_)
  intro w18 hBw18 hCw18
  have hzw18 := hCw18.size
  rw [setFrom_all _ _ (by kernel_rfl)] at hBw18
  refine wpF_run 1 [(26, (vI 1))] (wpF_end (then_code (wpC_seq (wpC_seq ?_))))
  refine wpC_drawM (Ext w18.drew) 36 [(235, 256, 0), (236, 27606985387162255149739023449108101809804435888681546220650096895197184, 1), (237, 55213970774324510299478046898216203619608871777363092441300193790394368, 2), (238, 110427941548649020598956093796432407239217743554726184882600387597565952, 4), (239, 331283824645947061796868281389297221717653230664178554647801162742366208, 12), (240, 552139707743245102994780468982162036196088717773630924413001937903943680, 20), (241, 883423532389192164791648750371459257913741948437809479060803100650504192, 32), (242, 883423532389192164791648750371459257913741948437809479060803100646309888, 32), (243, 6183964726724345153541541252600214805396193639064666353425621704524169216, 224), (244, 8061239733051378503723794847139565728462895279495011496429828293397577728, 292), (245, 14245204459775723657265336099739780533859088918559677849855449997921746944, 644), (246, 28269553036454149273332760011886696253239742350009903329945699220690305024, 1024), (247, 84808659109362447819998280035660088759719227050029709989837097662045749248, 3072), (248, 141458193123819395387262756153229913673437929493604242834611096490990370816, 5124), (249, 226266852233181843207261036188890002433157156543633952824448194153036120064, 8196), (250, 452312848583266388373324160190187140051835877600158453279131187530910662656, 17408), (251, 904625697166532776746648320380374280103671755200316906558262375061821325568, 32768), (252, 2713877091499598330239944961141122840311015265600950719674787125185463975936, 98304), (253, 4523128485832663883733241601901871400518358776001584532791311875309106626560, 163840), (254, 7237005577332262213973186563042994240829374041602535252466099000494570602560, 262144), (255, 21711016731996786641919559689128982722488122124807605757398297001483711807488, 786432), (256, 37089653583827843846612581135595345484250541963212993168888757377534674337792, 1343488), (257, 58800670315824630488532140824724328206738664088020598926287054379018386145280, 2392064), (258, 115792089237316195423570985008687907853269984665640564039457584007913129640000, 4194304), (259, 347376267711948586270712955026063723559809953996921692118372752023739388919808, 12582912), (260, 579865071883747509894601573363819913546453595083403137103846182414627469524992, 21004288), (261, 927241339595696096165314528389883637106263549080324829222218934438366858444800, 37781504), (262, 1852673427797059126777135760139006525652319754650249024631321344126610141347840, 67108864), (263, 5558020283391177380331407280417019576956959263950747073893964032379830222716928, 201326592), (264, 9263367138985295633885678800695032628261598773251245123156606720633050371194880, 335544320), (265, 14821387422376473014217086081112052205218558037201992197050570753012880627466240, 536870912), (266, 14821387422376473014217086081112052205218558037201992197050570753012880593911808, 536870912), (267, 103749711956635311099519602567784365436529906260413945379353995271090164157382656, 3758096384), (268, 135245160229185316254730910490147476372619342089468178798086458121242535419445248, 4898947072), (269, 238995776811517793887027259706252222183429352021637324494347011654707761398153216, 8657076224), (270, 474285302141744302987723501243906050941273960862218950622524822358787240826503168, 17179901952)] (fun hT306 => ?_)
  have hEw19 : Ext w18 w18.drew := Ext.drew w18
  generalize w18.drew = w19 at hEw19 ⊢
  have hzw19 := hEw19.size
  refine anyM_run hT306 [(0, 234, vF), (1, 235, vT), (2, 236, vT), (3, 237, (vI 1)), (4, 238, vF), (5, 239, vF)] 6 63 ?_
  have hK1 := (((((((((hBw14.ext hEw15)).ext hEw16)).ext hEw17)).chg hCw18 (fun hs => by have h : _ = _ := hs; omega))).ext hEw19)
  refine anyM_take hT306 6 127 (some 240) (vA [(vI 0), (vI 0)]) (yld_val (Instr.loadAt 45 (vP w12.heap.size 0)) (fun w' hC => rn_lda (vs := [(vI 0), (vI 0)]) ((hK1.ext hC).all))) (anyM_one 7 255 (op_call (some 241) (c_place 0 0 _) ?_))
  rintro _ w20 ⟨rfl, hEw20⟩
  have hzw20 := hEw20.size
  refine ⟨.inr hEw20, ?_⟩
  refine anyM_take (hw := show Ext w19 w20 from hEw20) hT306 8 511 (some 242) vF (yld_val (bo .neq 45 (.tmp 240) (.tmp 241) (vA [(vI 0), (vI 0)]) (vA [(vI 0), (vI 0)])) (fun w' hC => run_neqAgg (r := true) (T := 45) ((run_eq_flat (dd := 9998) (t := 45) [(vI 0), (vI 0)] [(vI 0), (vI 0)]).trans (congrArg (fun b => Result.ok b _) (show (eqvs [(vI 0), (vI 0)] [(vI 0), (vI 0)]) = true from by rfl))))) (anyM_run (hw := show Ext w19 w20 from hEw20) hT306 [(9, 243, vF), (10, 244, vF), (11, 245, (vI 0)), (12, 246, vF), (13, 247, vF), (14, 248, vF), (15, 249, vF), (16, 250, vF), (17, 251, vT), (18, 252, vT), (19, 253, undef), (20, 254, undef), (21, 255, vT), (22, 256, vT), (23, 257, undef), (24, 258, undef), (25, 259, vT), (26, 260, vT), (27, 261, (vI 1)), (28, 262, vF), (29, 263, vF)] 21 1073741823 (anyM_take (hw := show Ext w19 w20 from hEw20) hT306 30 2147483647 (some 264) (vA [(vI 0), (vI 0)]) (yld_val (Instr.loadAt 45 (vP w16.heap.size 0)) (fun w' hC => rn_lda (vs := [(vI 0), (vI 0)]) (((hBw18.ext hEw19).ext hC).all))) (anyM_one 31 4294967295 (op_call (some 265) (c_place 0 0 _) ?_))))
  rintro _ w21 ⟨rfl, hEw21⟩
  have hzw21 := hEw21.size
  refine ⟨.inr (hEw20.trans hEw21), ?_⟩
  refine anyM_take (hw := show Ext w19 w21 from (hEw20.trans hEw21)) hT306 32 8589934591 (some 266) vF (yld_val (bo .neq 45 (.tmp 264) (.tmp 265) (vA [(vI 0), (vI 0)]) (vA [(vI 0), (vI 0)])) (fun w' hC => run_neqAgg (r := true) (T := 45) ((run_eq_flat (dd := 9998) (t := 45) [(vI 0), (vI 0)] [(vI 0), (vI 0)]).trans (congrArg (fun b => Result.ok b _) (show (eqvs [(vI 0), (vI 0)] [(vI 0), (vI 0)]) = true from by rfl))))) (anyM_run (hw := show Ext w19 w21 from (hEw20.trans hEw21)) hT306 [(33, 267, vF), (34, 268, vF), (35, 269, vF)] 3 68719476735 (anyM_done (then_code (wpC_false (wpC_skip (then_code (wpC_seq (wpC_region (wpF_run 11 [(27, vF), (279, vF), (278, undef), (277, undef), (276, undef), (275, vF), (274, vF), (273, undef), (272, undef), (271, vF), (270, vF)] ?_)))))))))
  refine wpF_end (then_code (wpC_seq (wpC_region (wpF_run 2 [(282, (.int .i64 j)), (281, (.int .i64 n))] (wpF_step (op_call (some 283) (c_PathBad n j _ (by (try simp only [Int.toNat_natCast]); omega)) ?_))))))
  rintro _ w22 ⟨rfl, hEw22⟩
  have hzw22 := hEw22.size
  refine wpF_run 5 [(16, (vI 1)), (28, (.slice none 0 0)), (285, (vI 1)), (284, (.slice none 0 0)), (280, (.tuple #[(.slice none 0 0), (vI 1)]))] (wpF_end (then_code (wpC_seq (wpC_region (wpF_run 2 [(288, (.int .i64 j)), (287, (.int .i64 n))] (wpF_step (op_call (some 289) (c_GroupBad n j _ (by (try simp only [Int.toNat_natCast]); omega)) ?_)))))))
  rintro _ w23 ⟨rfl, hEw23⟩
  have hzw23 := hEw23.size
  refine wpF_run 5 [(19, (vI 1)), (292, (vI 1)), (291, (vI 0)), (290, (vA [(vI 0), (vI 0)])), (286, (.tuple #[(vA [(vI 0), (vI 0)]), (vI 0), (vI 1)]))] (wpF_end (then_code (wpC_seq (wpC_region (wpF_run 3 [(296, (.int .i64 s)), (295, (.int .i64 j)), (294, (.int .i64 n))] (wpF_step (op_call (some 297) (c_DataBad n j s _ (by (try simp only [Int.toNat_natCast]); omega)) ?_)))))))
  rintro _ w24 ⟨rfl, hEw24⟩
  have hzw24 := hEw24.size
  refine wpF_run 5 [(21, (vI 1)), (20, (vI 0)), (299, (vI 1)), (298, (vI 0)), (293, (.tuple #[(vI 0), (vI 1)]))] (wpF_end (then_code (wpC_seq (wpC_seq (wpC_region (wpF_run 54 [(353, vF), (352, vF), (351, vF), (350, vF), (349, (vI 0)), (348, vF), (347, vF), (346, (vI 1)), (345, vT), (344, vT), (343, (vI 1)), (342, vF), (341, vF), (340, vF), (339, vF), (338, vF), (337, (vI 1)), (336, (vI 1)), (335, vF), (334, vF), (333, vF), (332, (vI 1)), (331, vF), (330, vF), (329, (vI 0)), (328, (.slice none 0 0)), (327, vT), (326, vT), (325, (vI 1)), (324, vF), (323, vF), (322, vF), (321, vF), (320, undef), (319, undef), (318, undef), (317, undef), (316, undef), (315, undef), (314, vF), (313, vF), (312, vF), (311, (vI 1)), (310, vF), (309, vF), (308, vF), (307, vF), (306, vF), (305, (vI 1)), (304, vF), (303, vF), (302, vF), (301, vF), (300, (vI 1))] (wpF_end (then_code (wpC_false ?_)))))))))
  refine wpC_skip (then_code (wpC_seq (wpC_region (wpF_run 2 [(356, (.int .i64 j)), (355, (.int .i64 n))] (wpF_step (op_call (some 357) (c_OfBad n j _ (by (try simp only [Int.toNat_natCast]); omega)) ?_))))))
  rintro _ w25 ⟨rfl, hEw25⟩
  have hzw25 := hEw25.size
  refine wpF_run 3 [(359, (vI 1)), (358, (vA [vF, (vI 0), (vI 0), (vI 0)])), (354, (.tuple #[(vA [vF, (vI 0), (vI 0), (vI 0)]), (vI 1)]))] (wpF_step (op_new (some 29) (Instr.alloc 31 true (.tuple #[])) (vP w25.heap.size 0) ([vF, (vI 0), (vI 0), (vI 0)]) 31 ?_))
  intro w26 hBw26 hEw26
  have hzw26 := hEw26.size; have hlw26 := hBw26.lt
  refine wpF_step (op_store 31 w25.heap.size 0 31 (vA [vF, (vI 0), (vI 0), (vI 0)]) ([vF, (vI 0), (vI 0), (vI 0)]) ([vF, (vI 0), (vI 0), (vI 0)]) hBw26 (by kernel_rfl) (by first | decide | (simp; done) | (simp; omega)) (by simp [Value.oneCell']) ?_)
  intro w27 hBw27 hCw27
  have hzw27 := hCw27.size
  rw [setFrom_all _ _ (by kernel_rfl)] at hBw27
  refine wpF_run 1 [(16, (vI 1))] (wpF_end (then_code (wpC_seq (wpC_region (wpF_run 12 [(30, vF), (370, vF), (369, undef), (368, undef), (367, undef), (366, undef), (365, vF), (364, vF), (363, undef), (362, undef), (361, vF), (360, vF)] (wpF_end (then_code (wpC_seq (wpC_region ?_)))))))))
  refine wpF_run 10 [(380, vT), (379, vT), (378, (vI 1)), (377, vF), (376, vF), (375, vT), (374, vT), (373, vF), (372, vF), (371, (vI 1))] (wpF_step (op_v (some 381) (Instr.loadAt 31 (vP w25.heap.size 0)) (vA [vF, (vI 0), (vI 0), (vI 0)]) (rn_lda (vs := [vF, (vI 0), (vI 0), (vI 0)]) (hBw27.all)) ?_))
  refine wpF_run 1 [(382, (vA [vF, (vI 0), (vI 0), (vI 0)]))] (wpF_step (op_v (some 383) (bo .eql 31 (.tmp 381) (.tmp 382) (vA [vF, (vI 0), (vI 0), (vI 0)]) (vA [vF, (vI 0), (vI 0), (vI 0)])) vT (run_eqlAgg (r := true) (T := 31) ((run_eq_flat (dd := 9998) (t := 31) [vF, (vI 0), (vI 0), (vI 0)] [vF, (vI 0), (vI 0), (vI 0)]).trans (congrArg (fun b => Result.ok b _) (show (eqvs [vF, (vI 0), (vI 0), (vI 0)] [vF, (vI 0), (vI 0), (vI 0)]) = true from by rfl)))) ?_))
  refine wpF_run 4 [(387, vT), (386, vT), (385, vT), (384, vT)] (wpF_step (op_call (some 388) (c_lives12 _) ?_))
  rintro _ w28 ⟨rfl, hEw28⟩
  have hzw28 := hEw28.size
  refine wpF_run 2 [(2, vT), (389, vT)] (wpF_end (then_code (wpC_ret (body_rets vT ?_))))
  have hX1 : Ext w w28 := ((Ext.own (((((((((Ext.own ((((Ext.own ((((((((((((hEw1.trans hEw2).trans hEw3).trans hEw4).trans hEw5).trans hEw6).trans hEw7).trans hEw8).trans hEw9).trans hEw10).trans hEw11).trans hEw12).trans hEw13) hCw14 (by omega)).trans hEw15).trans hEw16).trans hEw17) hCw18 (by omega)).trans hEw19).trans hEw20).trans hEw21).trans hEw22).trans hEw23).trans hEw24).trans hEw25).trans hEw26) hCw27 (by omega)).trans hEw28)
  exact ⟨rfl, hX1⟩

theorem c_SE_is_0 (n : Nat) (l : Nat) (j : Nat)  (w : World) (hp0 : 1 ≤ n) (hp1 : n ≤ 4096) (hp2 : l ≤ hgt n) (hp3 : j < cnt n l) (hp4 : j < n) :
    Calls Try.prog 8 #[(vA [(vI n), (vI l), (vI j), (vI 0)])] w (Ret fun r w' => r = vT ∧ Ext w w') := by
  refine calls_of (n := 390) (σ := [(0, (vA [(vI n), (vI l), (vI j), (vI 0)]))]) Try.func8 rfl ?_
  have h5 := hgt_le n
  have hbg := bas_ge n (hgt n + 1)
  have hbs := bas_small (l := hgt n + 1) hp1 (by omega)
  have hcn := cnt_n n l
  refine wpC_seq (wpC_region (wpF_step (op_new (some 1) (Instr.box 58 (vA [(vI n), (vI l), (vI j), (vI 0)])) (vP w.heap.size 0) ([(vI n), (vI l), (vI j), (vI 0)]) 58 ?_)))
  intro w1 hBw1 hEw1
  have hzw1 := hEw1.size; have hlw1 := hBw1.lt
  refine wpF_run 1 [(2, vF)] (wpF_end (then_code (wpC_seq (wpC_drawM (Ext w1.drew) 12 [(32, 2, 0), (33, 2147483648, 1), (34, 2, 0), (35, 8589934592, 4), (36, 2, 0), (37, 34359738368, 16), (38, 2, 0), (39, 137438953472, 64), (4, 4294967296, 3), (5, 17179869184, 271), (6, 68719476736, 831), (7, 274877906944, 2047)] (fun hT248 => ?_)))))
  have hEw2 : Ext w1 w1.drew := Ext.drew w1
  generalize w1.drew = w2 at hEw2 ⊢
  have hzw2 := hEw2.size
  refine anyM_take hT248 0 1 (some 31) (vP w.heap.size 0) (yld_val (Instr.indexAt 58 (vP w.heap.size 0) (vI 0)) (fun w' hC => rn_ixa (E := 3) (sz := 1) (m := 4) (by omega))) (anyM_take hT248 1 3 (some 32) (vI n) (yld_val (Instr.loadAt 3 (vP w.heap.size 0)) (fun w' hC => rn_ld (((hBw1.ext hEw2).ext hC).cell rfl))) (anyM_take hT248 2 7 (some 33) (vP w.heap.size 1) (yld_val (Instr.indexAt 58 (vP w.heap.size 0) (vI 1)) (fun w' hC => rn_ixa (E := 3) (sz := 1) (m := 4) (by omega))) (anyM_take hT248 3 15 (some 34) (vI l) (yld_val (Instr.loadAt 3 (vP w.heap.size 1)) (fun w' hC => rn_ld (((hBw1.ext hEw2).ext hC).cell rfl))) (anyM_take hT248 4 31 (some 35) (vP w.heap.size 2) (yld_val (Instr.indexAt 58 (vP w.heap.size 0) (vI 2)) (fun w' hC => rn_ixa (E := 3) (sz := 1) (m := 4) (by omega))) (anyM_take hT248 5 63 (some 36) (vI j) (yld_val (Instr.loadAt 3 (vP w.heap.size 2)) (fun w' hC => rn_ld (((hBw1.ext hEw2).ext hC).cell rfl))) (anyM_take hT248 6 127 (some 37) (vP w.heap.size 3) (yld_val (Instr.indexAt 58 (vP w.heap.size 0) (vI 3)) (fun w' hC => rn_ixa (E := 3) (sz := 1) (m := 4) (by omega))) (anyM_take hT248 7 255 (some 38) (vI 0) (yld_val (Instr.loadAt 3 (vP w.heap.size 3)) (fun w' hC => rn_ld (((hBw1.ext hEw2).ext hC).cell rfl))) (anyM_run hT248 [(8, 3, (vI n)), (9, 4, (vI l)), (10, 5, (vI j)), (11, 6, (vI 0))] 4 4095 (anyM_done ?_)))))))))
  refine then_code (wpC_seq (wpC_region (wpF_run 1 [(39, (vI n))] (wpF_step (op_b (some 40) (decide (((n : Nat) : Int) ≥ ((1 : Nat) : Int))) true (cmpDT (by omega)) ?_)))))
  refine wpF_run 2 [(42, (vI n)), (41, vT)] (wpF_step (op_b (some 43) (decide (((n : Nat) : Int) ≤ ((4096 : Nat) : Int))) true (cmpDT (by omega)) ?_))
  refine wpF_run 2 [(7, vT), (44, vT)] (wpF_end (then_code (wpC_seq (wpC_region (wpF_run 5 [(49, (vI j)), (48, (vI l)), (47, (vI n)), (46, vT), (45, vT)] (wpF_step (op_call (some 50) (c_rIs n l j _ (by omega) (by omega) (by omega) (by omega)) ?_)))))))
  rintro _ _ ⟨rfl, rfl⟩
  refine wpF_run 2 [(8, vT), (51, vT)] (wpF_end (then_code (wpC_seq (wpC_region (wpF_run 1 [(53, (vI n))] (wpF_step (op_call (some 54) (c_Height n _ (by omega) (by omega)) ?_)))))))
  rintro _ w3 ⟨rfl, hEw3⟩
  have hzw3 := hEw3.size
  refine wpF_run 5 [(10, (vI 0)), (9, (vI (hgt n))), (56, (vI 0)), (55, (vI (hgt n))), (52, (.tuple #[(vI (hgt n)), (vI 0)]))] (wpF_end (then_code (wpC_seq (wpC_region (wpF_run 1 [(58, (vI n))] (wpF_step (op_call (some 59) (c_Total n _ (by omega) (by omega)) ?_)))))))
  rintro _ w4 ⟨rfl, hEw4⟩
  have hzw4 := hEw4.size
  refine wpF_run 5 [(12, (vI 0)), (11, (vI (tot n))), (61, (vI 0)), (60, (vI (tot n))), (57, (.tuple #[(vI (tot n)), (vI 0)]))] (wpF_end (then_code (wpC_seq (wpC_region (wpF_run 1 [(63, (vI n))] (wpF_step (op_call (some 64) (c_Sectors n _ (by omega) (by omega)) ?_)))))))
  rintro _ w5 ⟨rfl, hEw5⟩
  have hzw5 := hEw5.size
  refine wpF_run 5 [(14, (vI 0)), (13, (vI (bas n (hgt n + 1)))), (66, (vI 0)), (65, (vI (bas n (hgt n + 1)))), (62, (.tuple #[(vI (bas n (hgt n + 1))), (vI 0)]))] (wpF_end (then_code (wpC_seq (wpC_seq (wpC_region (wpF_run 18 [(84, (vI n)), (83, vF), (82, vF), (81, vF), (80, vT), (79, vT), (78, (vI 0)), (77, vF), (76, vF), (75, vF), (74, vT), (73, vT), (72, (vI 0)), (71, vF), (70, vF), (69, vT), (68, vT), (67, (vI 0))] (wpF_step (op_call (some 85) (c_Check n _ (by omega) (by omega)) ?_))))))))
  rintro _ _ ⟨rfl, rfl⟩
  refine wpF_run 21 [(106, vF), (105, vF), (104, undef), (103, undef), (102, vF), (101, vF), (100, vT), (99, vF), (98, vF), (97, vF), (96, (vI 0)), (95, (vI 0)), (94, vF), (93, vF), (92, vF), (91, (vI 0)), (90, (vI 0)), (89, vF), (88, vF), (87, vF), (86, (vI 0))] (wpF_end (then_code (wpC_false (wpC_skip (then_code (wpC_seq (wpC_region (wpF_run 2 [(109, (vI l)), (108, (vI n))] (wpF_step (op_call (some 110) (c_Count n l _ (by omega) (by omega) (by omega)) ?_))))))))))
  rintro _ w6 ⟨rfl, hEw6⟩
  have hzw6 := hEw6.size
  refine wpF_run 5 [(16, (vI 0)), (15, (vI (cnt n l))), (112, (vI 0)), (111, (vI (cnt n l))), (107, (.tuple #[(vI (cnt n l)), (vI 0)]))] (wpF_end (then_code (wpC_seq (wpC_seq (wpC_region (wpF_run 6 [(118, (vI l)), (117, (vI n)), (116, vT), (115, vT), (114, vT), (113, (vI 0))] (wpF_step (op_call (some 119) (c_rIs n l 0 _ (by omega) (by omega) (by omega) (cnt_pos hp0 l)) ?_))))))))
  rintro _ _ ⟨rfl, rfl⟩
  refine wpF_run 14 [(133, vF), (132, vF), (131, undef), (130, undef), (129, undef), (128, undef), (127, undef), (126, undef), (125, vF), (124, vF), (123, (vI 0)), (122, vF), (121, vF), (120, vT)] (wpF_end (then_code (wpC_false (wpC_skip (then_code (wpC_seq (wpC_region (wpF_run 3 [(137, (vI j)), (136, (vI l)), (135, (vI n))] (wpF_step (op_call (some 138) (c_Parts n l j _ (by omega) (by omega) (by omega) (by omega)) ?_))))))))))
  rintro _ w7 ⟨rfl, hEw7⟩
  have hzw7 := hEw7.size
  refine wpF_run 5 [(16, (vI 0)), (15, (vI (prt n l j))), (140, (vI 0)), (139, (vI (prt n l j))), (134, (.tuple #[(vI (prt n l j)), (vI 0)]))] (wpF_end (then_code (wpC_seq (wpC_region (wpF_run 3 [(144, (vI j)), (143, (vI l)), (142, (vI n))] (wpF_step (op_call (some 145) (c_place l j _) ?_)))))))
  rintro _ w8 ⟨rfl, hEw8⟩
  have hzw8 := hEw8.size
  refine wpF_step (op_call (some 146) (c_Blocks n l j _ (by omega) (by omega) (by omega) (by omega)) ?_)
  rintro _ w9 ⟨rfl, hEw9⟩
  have hzw9 := hEw9.size
  refine wpF_run 7 [(19, (vI 0)), (18, (vI (min n ((j + 1) * wid l)))), (17, (vI (j * wid l))), (149, (vI 0)), (148, (vI (min n ((j + 1) * wid l)))), (147, (vI (j * wid l))), (141, (.tuple #[(vI (j * wid l)), (vI (min n ((j + 1) * wid l))), (vI 0)]))] (wpF_end (then_code (wpC_seq (wpC_region (wpF_run 4 [(154, (vI 0)), (153, (vI j)), (152, (vI l)), (151, (vI n))] (wpF_step (op_call (some 155) (c_Node n l j 0 _ (by omega) (by omega) (by omega) (by omega) (by omega)) ?_)))))))
  rintro _ w10 ⟨rfl, hEw10⟩
  have hzw10 := hEw10.size
  refine wpF_run 5 [(21, (vI 0)), (20, (vI (bas n l + 2 * j + 0))), (157, (vI 0)), (156, (vI (bas n l + 2 * j + 0))), (150, (.tuple #[(vI (bas n l + 2 * j + 0)), (vI 0)]))] (wpF_end (then_code (wpC_seq (wpC_seq (wpC_region (wpF_run 24 [(181, vF), (180, vF), (179, vT), (178, vT), (177, undef), (176, undef), (175, vT), (174, vT), (173, (vI 0)), (172, vT), (171, vT), (170, vT), (169, (vI 0)), (168, vF), (167, vF), (166, vF), (165, vT), (164, vT), (163, (vI 0)), (162, vF), (161, vF), (160, vT), (159, vT), (158, (vI 0))] (wpF_end (then_code (wpC_false ?_)))))))))
  refine wpC_skip (then_code (wpC_seq (wpC_seq (wpC_region (wpF_run 34 [(215, vF), (214, vF), (213, undef), (212, undef), (211, undef), (210, undef), (209, undef), (208, undef), (207, vF), (206, vF), (205, (vI 0)), (204, vF), (203, vF), (202, undef), (201, undef), (200, undef), (199, undef), (198, undef), (197, undef), (196, undef), (195, undef), (194, undef), (193, undef), (192, undef), (191, undef), (190, undef), (189, undef), (188, undef), (187, undef), (186, undef), (185, undef), (184, vF), (183, vF), (182, (vI 0))] (wpF_end (then_code (wpC_false (wpC_skip ?_)))))))))
  refine then_code (wpC_seq (wpC_region (wpF_run 3 [(219, (vI j)), (218, (vI l)), (217, (vI n))] (wpF_step (op_call (some 220) (c_place l j _) ?_)))))
  rintro _ w11 ⟨rfl, hEw11⟩
  have hzw11 := hEw11.size
  refine wpF_step (op_call (some 221) (c_ParentAny n l j _ (by omega) (by omega) (by omega) (by omega)) ?_)
  rintro _ w12 ⟨a1, a2, a3, a4, rfl, hEw12⟩
  have hzw12 := hEw12.size
  refine wpF_run 4 [(224, (.int .i64 a4)), (223, (.int .i64 a3)), (222, (vA [(.int .i64 a1), (.int .i64 a2)])), (216, (.tuple #[(vA [(.int .i64 a1), (.int .i64 a2)]), (.int .i64 a3), (.int .i64 a4)]))] (wpF_step (op_new (some 22) (Instr.alloc 45 true (.tuple #[])) (vP w12.heap.size 0) ([(vI 0), (vI 0)]) 45 ?_))
  intro w13 hBw13 hEw13
  have hzw13 := hEw13.size; have hlw13 := hBw13.lt
  refine wpF_step (op_store 45 w12.heap.size 0 45 (vA [(.int .i64 a1), (.int .i64 a2)]) ([(vI 0), (vI 0)]) ([(.int .i64 a1), (.int .i64 a2)]) hBw13 (by kernel_rfl) (by first | decide | (simp; done) | (simp; omega)) (by simp [Value.oneCell']) ?_)
  intro w14 hBw14 hCw14
  have hzw14 := hCw14.size
  rw [setFrom_all _ _ (by kernel_rfl)] at hBw14
  refine wpF_run 2 [(24, (.int .i64 a4)), (23, (.int .i64 a3))] (wpF_end (then_code (wpC_seq (wpC_region (wpF_run 3 [(228, (vI j)), (227, (vI l)), (226, (vI n))] (wpF_step (op_call (some 229) (c_place l j _) ?_)))))))
  rintro _ w15 ⟨rfl, hEw15⟩
  have hzw15 := hEw15.size
  refine wpF_run 1 [(230, (vI 0))] (wpF_step (op_call (some 231) (c_ChildAny n l j 0 _ (by omega) (by omega) (by omega) (by omega) (by omega)) ?_))
  rintro _ w16 ⟨a5, a6, a7, rfl, hEw16⟩
  have hzw16 := hEw16.size
  refine wpF_run 3 [(233, (.int .i64 a7)), (232, (vA [(.int .i64 a5), (.int .i64 a6)])), (225, (.tuple #[(vA [(.int .i64 a5), (.int .i64 a6)]), (.int .i64 a7)]))] (wpF_step (op_new (some 25) (Instr.alloc 45 true (.tuple #[])) (vP w16.heap.size 0) ([(vI 0), (vI 0)]) 45 ?_))
  intro w17 hBw17 hEw17
  have hzw17 := hEw17.size; have hlw17 := hBw17.lt
  refine wpF_step (op_store 45 w16.heap.size 0 45 (vA [(.int .i64 a5), (.int .i64 a6)]) ([(vI 0), (vI 0)]) ([(.int .i64 a5), (.int .i64 a6)]) hBw17 (by kernel_rfl) (by first | decide | (simp; done) | (simp; omega)) (by simp [Value.oneCell']) ?_)
  intro w18 hBw18 hCw18
  have hzw18 := hCw18.size
  rw [setFrom_all _ _ (by kernel_rfl)] at hBw18
  refine wpF_run 1 [(26, (.int .i64 a7))] (wpF_end (then_code (wpC_seq (wpC_seq ?_))))
  refine wpC_drawM (Ext w18.drew) 36 [(235, 256, 0), (236, 27606985387162255149739023449108101809804435888681546220650096895197184, 1), (237, 55213970774324510299478046898216203619608871777363092441300193790394368, 2), (238, 110427941548649020598956093796432407239217743554726184882600387597565952, 4), (239, 331283824645947061796868281389297221717653230664178554647801162742366208, 12), (240, 552139707743245102994780468982162036196088717773630924413001937903943680, 20), (241, 883423532389192164791648750371459257913741948437809479060803100650504192, 32), (242, 883423532389192164791648750371459257913741948437809479060803100646309888, 32), (243, 6183964726724345153541541252600214805396193639064666353425621704524169216, 224), (244, 8061239733051378503723794847139565728462895279495011496429828293397577728, 292), (245, 14245204459775723657265336099739780533859088918559677849855449997921746944, 644), (246, 28269553036454149273332760011886696253239742350009903329945699220690305024, 1024), (247, 84808659109362447819998280035660088759719227050029709989837097662045749248, 3072), (248, 141458193123819395387262756153229913673437929493604242834611096490990370816, 5124), (249, 226266852233181843207261036188890002433157156543633952824448194153036120064, 8196), (250, 452312848583266388373324160190187140051835877600158453279131187530910662656, 17408), (251, 904625697166532776746648320380374280103671755200316906558262375061821325568, 32768), (252, 2713877091499598330239944961141122840311015265600950719674787125185463975936, 98304), (253, 4523128485832663883733241601901871400518358776001584532791311875309106626560, 163840), (254, 7237005577332262213973186563042994240829374041602535252466099000494570602560, 262144), (255, 21711016731996786641919559689128982722488122124807605757398297001483711807488, 786432), (256, 37089653583827843846612581135595345484250541963212993168888757377534674337792, 1343488), (257, 58800670315824630488532140824724328206738664088020598926287054379018386145280, 2392064), (258, 115792089237316195423570985008687907853269984665640564039457584007913129640000, 4194304), (259, 347376267711948586270712955026063723559809953996921692118372752023739388919808, 12582912), (260, 579865071883747509894601573363819913546453595083403137103846182414627469524992, 21004288), (261, 927241339595696096165314528389883637106263549080324829222218934438366858444800, 37781504), (262, 1852673427797059126777135760139006525652319754650249024631321344126610141347840, 67108864), (263, 5558020283391177380331407280417019576956959263950747073893964032379830222716928, 201326592), (264, 9263367138985295633885678800695032628261598773251245123156606720633050371194880, 335544320), (265, 14821387422376473014217086081112052205218558037201992197050570753012880627466240, 536870912), (266, 14821387422376473014217086081112052205218558037201992197050570753012880593911808, 536870912), (267, 103749711956635311099519602567784365436529906260413945379353995271090164157382656, 3758096384), (268, 135245160229185316254730910490147476372619342089468178798086458121242535419445248, 4898947072), (269, 238995776811517793887027259706252222183429352021637324494347011654707761398153216, 8657076224), (270, 474285302141744302987723501243906050941273960862218950622524822358787240826503168, 17179901952)] (fun hT431 => ?_)
  have hEw19 : Ext w18 w18.drew := Ext.drew w18
  generalize w18.drew = w19 at hEw19 ⊢
  have hzw19 := hEw19.size
  refine anyM_run hT431 [(0, 234, vT), (1, 235, vF), (2, 236, vF), (3, 237, undef), (4, 238, undef), (5, 239, undef), (6, 240, undef), (7, 241, undef), (8, 242, undef), (9, 243, undef), (10, 244, undef), (11, 245, undef), (12, 246, undef), (13, 247, undef), (14, 248, vF), (15, 249, vF), (16, 250, vT), (17, 251, vF), (18, 252, vF), (19, 253, (vI 0)), (20, 254, vF), (21, 255, vF), (22, 256, vF), (23, 257, (vI 0)), (24, 258, vF), (25, 259, vF), (26, 260, vF), (27, 261, undef), (28, 262, undef), (29, 263, undef), (30, 264, undef), (31, 265, undef), (32, 266, undef), (33, 267, undef), (34, 268, vF), (35, 269, vF)] 36 68719476735 (anyM_done (then_code (wpC_false (wpC_skip (then_code (wpC_seq (wpC_region (wpF_run 3 [(272, (vI j)), (271, vT), (270, vT)] (wpF_step (op_b (some 273) (decide (((j : Nat) : Int) ≥ ((0 : Nat) : Int))) true (cmpDT (by omega)) ?_))))))))))
  refine wpF_run 4 [(277, (vI n)), (276, (vI j)), (275, vT), (274, vT)] (wpF_step (op_b (some 278) (decide (((j : Nat) : Int) < ((n : Nat) : Int))) true (cmpDT (by omega)) ?_))
  refine wpF_run 2 [(27, vT), (279, vT)] (wpF_end (then_code (wpC_seq (wpC_region (wpF_run 2 [(282, (vI j)), (281, (vI n))] (wpF_step (op_call (some 283) (c_Path n j _ (by omega) (by omega) (by omega)) ?_)))))))
  rintro _ w20 ⟨a8, rfl, hFz16_0, hEw20⟩
  have hzw20 := hEw20.size
  have hlea8 := hFz16_0.le
  refine wpF_run 5 [(16, (vI 0)), (28, (.slice a8 (hgt n + 1) (hgt n + 1))), (285, (vI 0)), (284, (.slice a8 (hgt n + 1) (hgt n + 1))), (280, (.tuple #[(.slice a8 (hgt n + 1) (hgt n + 1)), (vI 0)]))] (wpF_end (then_code (wpC_seq (wpC_region (wpF_run 2 [(288, (vI j)), (287, (vI n))] (wpF_step (op_call (some 289) (c_Group n j _ (by omega) (by omega) (by omega)) ?_)))))))
  rintro _ w21 ⟨rfl, hEw21⟩
  have hzw21 := hEw21.size
  refine wpF_run 5 [(19, (vI 0)), (292, (vI 0)), (291, (vI (j % 4))), (290, (vA [(vI 0), (vI (j / 4))])), (286, (.tuple #[(vA [(vI 0), (vI (j / 4))]), (vI (j % 4)), (vI 0)]))] (wpF_end (then_code (wpC_seq (wpC_region (wpF_run 3 [(296, (vI 0)), (295, (vI j)), (294, (vI n))] (wpF_step (op_call (some 297) (c_Data n j 0 _ (by omega) (by omega) (by omega) (by omega)) ?_)))))))
  rintro _ w22 ⟨rfl, hEw22⟩
  have hzw22 := hEw22.size
  refine wpF_run 5 [(21, (vI 0)), (20, (vI (2 * j + 0))), (299, (vI 0)), (298, (vI (2 * j + 0))), (293, (.tuple #[(vI (2 * j + 0)), (vI 0)]))] (wpF_end (then_code (wpC_seq (wpC_seq (wpC_region (wpF_run 54 [(353, vF), (352, vF), (351, undef), (350, undef), (349, undef), (348, undef), (347, undef), (346, undef), (345, vF), (344, vF), (343, (vI 0)), (342, vF), (341, vF), (340, vF), (339, undef), (338, undef), (337, undef), (336, undef), (335, undef), (334, undef), (333, undef), (332, undef), (331, undef), (330, undef), (329, undef), (328, undef), (327, vF), (326, vF), (325, (vI 0)), (324, vF), (323, vF), (322, vF), (321, vT), (320, vT), (319, undef), (318, undef), (317, vT), (316, vT), (315, (vI 0)), (314, vT), (313, vT), (312, vT), (311, (vI 0)), (310, vF), (309, vF), (308, vF), (307, vT), (306, vT), (305, (vI 0)), (304, vF), (303, vF), (302, vT), (301, vT), (300, (vI 0))] (wpF_end (then_code (wpC_false ?_)))))))))
  refine wpC_skip (then_code (wpC_seq (wpC_region (wpF_run 2 [(356, (vI j)), (355, (vI n))] (wpF_step (op_call (some 357) (c_OfAny n j _ (by omega) (by omega) (by omega)) ?_))))))
  rintro _ w23 ⟨a9, a10, a11, a12, rfl, hEw23⟩
  have hzw23 := hEw23.size
  refine wpF_run 3 [(359, (vI 0)), (358, (vA [(.bool a9), (.int .i64 a10), (.int .i64 a11), (.int .i64 a12)])), (354, (.tuple #[(vA [(.bool a9), (.int .i64 a10), (.int .i64 a11), (.int .i64 a12)]), (vI 0)]))] (wpF_step (op_new (some 29) (Instr.alloc 31 true (.tuple #[])) (vP w23.heap.size 0) ([vF, (vI 0), (vI 0), (vI 0)]) 31 ?_))
  intro w24 hBw24 hEw24
  have hzw24 := hEw24.size; have hlw24 := hBw24.lt
  refine wpF_step (op_store 31 w23.heap.size 0 31 (vA [(.bool a9), (.int .i64 a10), (.int .i64 a11), (.int .i64 a12)]) ([vF, (vI 0), (vI 0), (vI 0)]) ([(.bool a9), (.int .i64 a10), (.int .i64 a11), (.int .i64 a12)]) hBw24 (by kernel_rfl) (by first | decide | (simp; done) | (simp; omega)) (by simp [Value.oneCell']) ?_)
  intro w25 hBw25 hCw25
  have hzw25 := hCw25.size
  rw [setFrom_all _ _ (by kernel_rfl)] at hBw25
  refine wpF_run 1 [(16, (vI 0))] (wpF_end (then_code (wpC_seq (wpC_region (wpF_run 3 [(362, (vI j)), (361, vT), (360, vT)] (wpF_step (op_b (some 363) (decide (((j : Nat) : Int) ≥ ((0 : Nat) : Int))) true (cmpDT (by omega)) ?_)))))))
  refine wpF_run 4 [(367, (vI n)), (366, (vI j)), (365, vT), (364, vT)] (wpF_step (op_call (some 368) (c_rSectors n _ (by omega) (by omega)) ?_))
  rintro _ _ ⟨rfl, rfl⟩
  refine wpF_step (op_b (some 369) (decide (((j : Nat) : Int) < ((bas n (hgt n + 1) : Nat) : Int))) true (cmpDT (by omega)) ?_)
  refine wpF_run 2 [(30, vT), (370, vT)] (wpF_end (then_code (wpC_seq (wpC_region (wpF_run 17 [(387, vT), (386, vT), (385, vT), (384, undef), (383, undef), (382, undef), (381, undef), (380, undef), (379, undef), (378, undef), (377, vT), (376, vT), (375, vT), (374, vT), (373, vT), (372, vT), (371, (vI 0))] (wpF_step (op_call (some 388) (c_lives12 _) ?_)))))))
  rintro _ w26 ⟨rfl, hEw26⟩
  have hzw26 := hEw26.size
  refine wpF_run 2 [(2, vT), (389, vT)] (wpF_end (then_code (wpC_ret (body_rets vT ?_))))
  have hX1 : Ext w w26 := ((Ext.own (((((((Ext.own ((((Ext.own ((((((((((((hEw1.trans hEw2).trans hEw3).trans hEw4).trans hEw5).trans hEw6).trans hEw7).trans hEw8).trans hEw9).trans hEw10).trans hEw11).trans hEw12).trans hEw13) hCw14 (by omega)).trans hEw15).trans hEw16).trans hEw17) hCw18 (by omega)).trans hEw19).trans hEw20).trans hEw21).trans hEw22).trans hEw23).trans hEw24) hCw25 (by omega)).trans hEw26)
  exact ⟨rfl, hX1⟩

theorem c_SE_is_1 (n : Nat) (l : Nat) (j : Nat)  (w : World) (hp0 : 1 ≤ n) (hp1 : n ≤ 4096) (hp2 : l ≤ hgt n) (hp3 : j < cnt n l) (hp4 : j < n) :
    Calls Try.prog 8 #[(vA [(vI n), (vI l), (vI j), (vI 1)])] w (Ret fun r w' => r = vT ∧ Ext w w') := by
  refine calls_of (n := 390) (σ := [(0, (vA [(vI n), (vI l), (vI j), (vI 1)]))]) Try.func8 rfl ?_
  have h5 := hgt_le n
  have hbg := bas_ge n (hgt n + 1)
  have hbs := bas_small (l := hgt n + 1) hp1 (by omega)
  have hcn := cnt_n n l
  refine wpC_seq (wpC_region (wpF_step (op_new (some 1) (Instr.box 58 (vA [(vI n), (vI l), (vI j), (vI 1)])) (vP w.heap.size 0) ([(vI n), (vI l), (vI j), (vI 1)]) 58 ?_)))
  intro w1 hBw1 hEw1
  have hzw1 := hEw1.size; have hlw1 := hBw1.lt
  refine wpF_run 1 [(2, vF)] (wpF_end (then_code (wpC_seq (wpC_drawM (Ext w1.drew) 12 [(32, 2, 0), (33, 2147483648, 1), (34, 2, 0), (35, 8589934592, 4), (36, 2, 0), (37, 34359738368, 16), (38, 2, 0), (39, 137438953472, 64), (4, 4294967296, 3), (5, 17179869184, 271), (6, 68719476736, 831), (7, 274877906944, 2047)] (fun hT362 => ?_)))))
  have hEw2 : Ext w1 w1.drew := Ext.drew w1
  generalize w1.drew = w2 at hEw2 ⊢
  have hzw2 := hEw2.size
  refine anyM_take hT362 0 1 (some 31) (vP w.heap.size 0) (yld_val (Instr.indexAt 58 (vP w.heap.size 0) (vI 0)) (fun w' hC => rn_ixa (E := 3) (sz := 1) (m := 4) (by omega))) (anyM_take hT362 1 3 (some 32) (vI n) (yld_val (Instr.loadAt 3 (vP w.heap.size 0)) (fun w' hC => rn_ld (((hBw1.ext hEw2).ext hC).cell rfl))) (anyM_take hT362 2 7 (some 33) (vP w.heap.size 1) (yld_val (Instr.indexAt 58 (vP w.heap.size 0) (vI 1)) (fun w' hC => rn_ixa (E := 3) (sz := 1) (m := 4) (by omega))) (anyM_take hT362 3 15 (some 34) (vI l) (yld_val (Instr.loadAt 3 (vP w.heap.size 1)) (fun w' hC => rn_ld (((hBw1.ext hEw2).ext hC).cell rfl))) (anyM_take hT362 4 31 (some 35) (vP w.heap.size 2) (yld_val (Instr.indexAt 58 (vP w.heap.size 0) (vI 2)) (fun w' hC => rn_ixa (E := 3) (sz := 1) (m := 4) (by omega))) (anyM_take hT362 5 63 (some 36) (vI j) (yld_val (Instr.loadAt 3 (vP w.heap.size 2)) (fun w' hC => rn_ld (((hBw1.ext hEw2).ext hC).cell rfl))) (anyM_take hT362 6 127 (some 37) (vP w.heap.size 3) (yld_val (Instr.indexAt 58 (vP w.heap.size 0) (vI 3)) (fun w' hC => rn_ixa (E := 3) (sz := 1) (m := 4) (by omega))) (anyM_take hT362 7 255 (some 38) (vI 1) (yld_val (Instr.loadAt 3 (vP w.heap.size 3)) (fun w' hC => rn_ld (((hBw1.ext hEw2).ext hC).cell rfl))) (anyM_run hT362 [(8, 3, (vI n)), (9, 4, (vI l)), (10, 5, (vI j)), (11, 6, (vI 1))] 4 4095 (anyM_done ?_)))))))))
  refine then_code (wpC_seq (wpC_region (wpF_run 1 [(39, (vI n))] (wpF_step (op_b (some 40) (decide (((n : Nat) : Int) ≥ ((1 : Nat) : Int))) true (cmpDT (by omega)) ?_)))))
  refine wpF_run 2 [(42, (vI n)), (41, vT)] (wpF_step (op_b (some 43) (decide (((n : Nat) : Int) ≤ ((4096 : Nat) : Int))) true (cmpDT (by omega)) ?_))
  refine wpF_run 2 [(7, vT), (44, vT)] (wpF_end (then_code (wpC_seq (wpC_region (wpF_run 5 [(49, (vI j)), (48, (vI l)), (47, (vI n)), (46, vT), (45, vT)] (wpF_step (op_call (some 50) (c_rIs n l j _ (by omega) (by omega) (by omega) (by omega)) ?_)))))))
  rintro _ _ ⟨rfl, rfl⟩
  refine wpF_run 2 [(8, vT), (51, vT)] (wpF_end (then_code (wpC_seq (wpC_region (wpF_run 1 [(53, (vI n))] (wpF_step (op_call (some 54) (c_Height n _ (by omega) (by omega)) ?_)))))))
  rintro _ w3 ⟨rfl, hEw3⟩
  have hzw3 := hEw3.size
  refine wpF_run 5 [(10, (vI 0)), (9, (vI (hgt n))), (56, (vI 0)), (55, (vI (hgt n))), (52, (.tuple #[(vI (hgt n)), (vI 0)]))] (wpF_end (then_code (wpC_seq (wpC_region (wpF_run 1 [(58, (vI n))] (wpF_step (op_call (some 59) (c_Total n _ (by omega) (by omega)) ?_)))))))
  rintro _ w4 ⟨rfl, hEw4⟩
  have hzw4 := hEw4.size
  refine wpF_run 5 [(12, (vI 0)), (11, (vI (tot n))), (61, (vI 0)), (60, (vI (tot n))), (57, (.tuple #[(vI (tot n)), (vI 0)]))] (wpF_end (then_code (wpC_seq (wpC_region (wpF_run 1 [(63, (vI n))] (wpF_step (op_call (some 64) (c_Sectors n _ (by omega) (by omega)) ?_)))))))
  rintro _ w5 ⟨rfl, hEw5⟩
  have hzw5 := hEw5.size
  refine wpF_run 5 [(14, (vI 0)), (13, (vI (bas n (hgt n + 1)))), (66, (vI 0)), (65, (vI (bas n (hgt n + 1)))), (62, (.tuple #[(vI (bas n (hgt n + 1))), (vI 0)]))] (wpF_end (then_code (wpC_seq (wpC_seq (wpC_region (wpF_run 18 [(84, (vI n)), (83, vF), (82, vF), (81, vF), (80, vT), (79, vT), (78, (vI 0)), (77, vF), (76, vF), (75, vF), (74, vT), (73, vT), (72, (vI 0)), (71, vF), (70, vF), (69, vT), (68, vT), (67, (vI 0))] (wpF_step (op_call (some 85) (c_Check n _ (by omega) (by omega)) ?_))))))))
  rintro _ _ ⟨rfl, rfl⟩
  refine wpF_run 21 [(106, vF), (105, vF), (104, undef), (103, undef), (102, vF), (101, vF), (100, vT), (99, vF), (98, vF), (97, vF), (96, (vI 0)), (95, (vI 0)), (94, vF), (93, vF), (92, vF), (91, (vI 0)), (90, (vI 0)), (89, vF), (88, vF), (87, vF), (86, (vI 0))] (wpF_end (then_code (wpC_false (wpC_skip (then_code (wpC_seq (wpC_region (wpF_run 2 [(109, (vI l)), (108, (vI n))] (wpF_step (op_call (some 110) (c_Count n l _ (by omega) (by omega) (by omega)) ?_))))))))))
  rintro _ w6 ⟨rfl, hEw6⟩
  have hzw6 := hEw6.size
  refine wpF_run 5 [(16, (vI 0)), (15, (vI (cnt n l))), (112, (vI 0)), (111, (vI (cnt n l))), (107, (.tuple #[(vI (cnt n l)), (vI 0)]))] (wpF_end (then_code (wpC_seq (wpC_seq (wpC_region (wpF_run 6 [(118, (vI l)), (117, (vI n)), (116, vT), (115, vT), (114, vT), (113, (vI 0))] (wpF_step (op_call (some 119) (c_rIs n l 0 _ (by omega) (by omega) (by omega) (cnt_pos hp0 l)) ?_))))))))
  rintro _ _ ⟨rfl, rfl⟩
  refine wpF_run 14 [(133, vF), (132, vF), (131, undef), (130, undef), (129, undef), (128, undef), (127, undef), (126, undef), (125, vF), (124, vF), (123, (vI 0)), (122, vF), (121, vF), (120, vT)] (wpF_end (then_code (wpC_false (wpC_skip (then_code (wpC_seq (wpC_region (wpF_run 3 [(137, (vI j)), (136, (vI l)), (135, (vI n))] (wpF_step (op_call (some 138) (c_Parts n l j _ (by omega) (by omega) (by omega) (by omega)) ?_))))))))))
  rintro _ w7 ⟨rfl, hEw7⟩
  have hzw7 := hEw7.size
  refine wpF_run 5 [(16, (vI 0)), (15, (vI (prt n l j))), (140, (vI 0)), (139, (vI (prt n l j))), (134, (.tuple #[(vI (prt n l j)), (vI 0)]))] (wpF_end (then_code (wpC_seq (wpC_region (wpF_run 3 [(144, (vI j)), (143, (vI l)), (142, (vI n))] (wpF_step (op_call (some 145) (c_place l j _) ?_)))))))
  rintro _ w8 ⟨rfl, hEw8⟩
  have hzw8 := hEw8.size
  refine wpF_step (op_call (some 146) (c_Blocks n l j _ (by omega) (by omega) (by omega) (by omega)) ?_)
  rintro _ w9 ⟨rfl, hEw9⟩
  have hzw9 := hEw9.size
  refine wpF_run 7 [(19, (vI 0)), (18, (vI (min n ((j + 1) * wid l)))), (17, (vI (j * wid l))), (149, (vI 0)), (148, (vI (min n ((j + 1) * wid l)))), (147, (vI (j * wid l))), (141, (.tuple #[(vI (j * wid l)), (vI (min n ((j + 1) * wid l))), (vI 0)]))] (wpF_end (then_code (wpC_seq (wpC_region (wpF_run 4 [(154, (vI 1)), (153, (vI j)), (152, (vI l)), (151, (vI n))] (wpF_step (op_call (some 155) (c_Node n l j 1 _ (by omega) (by omega) (by omega) (by omega) (by omega)) ?_)))))))
  rintro _ w10 ⟨rfl, hEw10⟩
  have hzw10 := hEw10.size
  refine wpF_run 5 [(21, (vI 0)), (20, (vI (bas n l + 2 * j + 1))), (157, (vI 0)), (156, (vI (bas n l + 2 * j + 1))), (150, (.tuple #[(vI (bas n l + 2 * j + 1)), (vI 0)]))] (wpF_end (then_code (wpC_seq (wpC_seq (wpC_region (wpF_run 24 [(181, vF), (180, vF), (179, vT), (178, vT), (177, vT), (176, (vI 1)), (175, vF), (174, vF), (173, (vI 1)), (172, vT), (171, vT), (170, vT), (169, (vI 0)), (168, vF), (167, vF), (166, vF), (165, vT), (164, vT), (163, (vI 0)), (162, vF), (161, vF), (160, vT), (159, vT), (158, (vI 0))] (wpF_end (then_code (wpC_false ?_)))))))))
  refine wpC_skip (then_code (wpC_seq (wpC_seq (wpC_region (wpF_run 34 [(215, vF), (214, vF), (213, undef), (212, undef), (211, undef), (210, undef), (209, undef), (208, undef), (207, vF), (206, vF), (205, (vI 0)), (204, vF), (203, vF), (202, undef), (201, undef), (200, undef), (199, undef), (198, undef), (197, undef), (196, undef), (195, undef), (194, undef), (193, undef), (192, undef), (191, undef), (190, undef), (189, undef), (188, undef), (187, undef), (186, undef), (185, undef), (184, vF), (183, vF), (182, (vI 0))] (wpF_end (then_code (wpC_false (wpC_skip ?_)))))))))
  refine then_code (wpC_seq (wpC_region (wpF_run 3 [(219, (vI j)), (218, (vI l)), (217, (vI n))] (wpF_step (op_call (some 220) (c_place l j _) ?_)))))
  rintro _ w11 ⟨rfl, hEw11⟩
  have hzw11 := hEw11.size
  refine wpF_step (op_call (some 221) (c_ParentAny n l j _ (by omega) (by omega) (by omega) (by omega)) ?_)
  rintro _ w12 ⟨a1, a2, a3, a4, rfl, hEw12⟩
  have hzw12 := hEw12.size
  refine wpF_run 4 [(224, (.int .i64 a4)), (223, (.int .i64 a3)), (222, (vA [(.int .i64 a1), (.int .i64 a2)])), (216, (.tuple #[(vA [(.int .i64 a1), (.int .i64 a2)]), (.int .i64 a3), (.int .i64 a4)]))] (wpF_step (op_new (some 22) (Instr.alloc 45 true (.tuple #[])) (vP w12.heap.size 0) ([(vI 0), (vI 0)]) 45 ?_))
  intro w13 hBw13 hEw13
  have hzw13 := hEw13.size; have hlw13 := hBw13.lt
  refine wpF_step (op_store 45 w12.heap.size 0 45 (vA [(.int .i64 a1), (.int .i64 a2)]) ([(vI 0), (vI 0)]) ([(.int .i64 a1), (.int .i64 a2)]) hBw13 (by kernel_rfl) (by first | decide | (simp; done) | (simp; omega)) (by simp [Value.oneCell']) ?_)
  intro w14 hBw14 hCw14
  have hzw14 := hCw14.size
  rw [setFrom_all _ _ (by kernel_rfl)] at hBw14
  refine wpF_run 2 [(24, (.int .i64 a4)), (23, (.int .i64 a3))] (wpF_end (then_code (wpC_seq (wpC_region (wpF_run 3 [(228, (vI j)), (227, (vI l)), (226, (vI n))] (wpF_step (op_call (some 229) (c_place l j _) ?_)))))))
  rintro _ w15 ⟨rfl, hEw15⟩
  have hzw15 := hEw15.size
  refine wpF_run 1 [(230, (vI 1))] (wpF_step (op_call (some 231) (c_ChildAny n l j 1 _ (by omega) (by omega) (by omega) (by omega) (by omega)) ?_))
  rintro _ w16 ⟨a5, a6, a7, rfl, hEw16⟩
  have hzw16 := hEw16.size
  refine wpF_run 3 [(233, (.int .i64 a7)), (232, (vA [(.int .i64 a5), (.int .i64 a6)])), (225, (.tuple #[(vA [(.int .i64 a5), (.int .i64 a6)]), (.int .i64 a7)]))] (wpF_step (op_new (some 25) (Instr.alloc 45 true (.tuple #[])) (vP w16.heap.size 0) ([(vI 0), (vI 0)]) 45 ?_))
  intro w17 hBw17 hEw17
  have hzw17 := hEw17.size; have hlw17 := hBw17.lt
  refine wpF_step (op_store 45 w16.heap.size 0 45 (vA [(.int .i64 a5), (.int .i64 a6)]) ([(vI 0), (vI 0)]) ([(.int .i64 a5), (.int .i64 a6)]) hBw17 (by kernel_rfl) (by first | decide | (simp; done) | (simp; omega)) (by simp [Value.oneCell']) ?_)
  intro w18 hBw18 hCw18
  have hzw18 := hCw18.size
  rw [setFrom_all _ _ (by kernel_rfl)] at hBw18
  refine wpF_run 1 [(26, (.int .i64 a7))] (wpF_end (then_code (wpC_seq (wpC_seq ?_))))
  refine wpC_drawM (Ext w18.drew) 36 [(235, 256, 0), (236, 27606985387162255149739023449108101809804435888681546220650096895197184, 1), (237, 55213970774324510299478046898216203619608871777363092441300193790394368, 2), (238, 110427941548649020598956093796432407239217743554726184882600387597565952, 4), (239, 331283824645947061796868281389297221717653230664178554647801162742366208, 12), (240, 552139707743245102994780468982162036196088717773630924413001937903943680, 20), (241, 883423532389192164791648750371459257913741948437809479060803100650504192, 32), (242, 883423532389192164791648750371459257913741948437809479060803100646309888, 32), (243, 6183964726724345153541541252600214805396193639064666353425621704524169216, 224), (244, 8061239733051378503723794847139565728462895279495011496429828293397577728, 292), (245, 14245204459775723657265336099739780533859088918559677849855449997921746944, 644), (246, 28269553036454149273332760011886696253239742350009903329945699220690305024, 1024), (247, 84808659109362447819998280035660088759719227050029709989837097662045749248, 3072), (248, 141458193123819395387262756153229913673437929493604242834611096490990370816, 5124), (249, 226266852233181843207261036188890002433157156543633952824448194153036120064, 8196), (250, 452312848583266388373324160190187140051835877600158453279131187530910662656, 17408), (251, 904625697166532776746648320380374280103671755200316906558262375061821325568, 32768), (252, 2713877091499598330239944961141122840311015265600950719674787125185463975936, 98304), (253, 4523128485832663883733241601901871400518358776001584532791311875309106626560, 163840), (254, 7237005577332262213973186563042994240829374041602535252466099000494570602560, 262144), (255, 21711016731996786641919559689128982722488122124807605757398297001483711807488, 786432), (256, 37089653583827843846612581135595345484250541963212993168888757377534674337792, 1343488), (257, 58800670315824630488532140824724328206738664088020598926287054379018386145280, 2392064), (258, 115792089237316195423570985008687907853269984665640564039457584007913129640000, 4194304), (259, 347376267711948586270712955026063723559809953996921692118372752023739388919808, 12582912), (260, 579865071883747509894601573363819913546453595083403137103846182414627469524992, 21004288), (261, 927241339595696096165314528389883637106263549080324829222218934438366858444800, 37781504), (262, 1852673427797059126777135760139006525652319754650249024631321344126610141347840, 67108864), (263, 5558020283391177380331407280417019576956959263950747073893964032379830222716928, 201326592), (264, 9263367138985295633885678800695032628261598773251245123156606720633050371194880, 335544320), (265, 14821387422376473014217086081112052205218558037201992197050570753012880627466240, 536870912), (266, 14821387422376473014217086081112052205218558037201992197050570753012880593911808, 536870912), (267, 103749711956635311099519602567784365436529906260413945379353995271090164157382656, 3758096384), (268, 135245160229185316254730910490147476372619342089468178798086458121242535419445248, 4898947072), (269, 238995776811517793887027259706252222183429352021637324494347011654707761398153216, 8657076224), (270, 474285302141744302987723501243906050941273960862218950622524822358787240826503168, 17179901952)] (fun hT545 => ?_)
  have hEw19 : Ext w18 w18.drew := Ext.drew w18
  generalize w18.drew = w19 at hEw19 ⊢
  have hzw19 := hEw19.size
  refine anyM_run hT545 [(0, 234, vT), (1, 235, vF), (2, 236, vF), (3, 237, undef), (4, 238, undef), (5, 239, undef), (6, 240, undef), (7, 241, undef), (8, 242, undef), (9, 243, undef), (10, 244, undef), (11, 245, undef), (12, 246, undef), (13, 247, undef), (14, 248, vF), (15, 249, vF), (16, 250, vT), (17, 251, vF), (18, 252, vF), (19, 253, (vI 1)), (20, 254, vF), (21, 255, vF), (22, 256, vF), (23, 257, (vI 1)), (24, 258, vF), (25, 259, vF), (26, 260, vF), (27, 261, undef), (28, 262, undef), (29, 263, undef), (30, 264, undef), (31, 265, undef), (32, 266, undef), (33, 267, undef), (34, 268, vF), (35, 269, vF)] 36 68719476735 (anyM_done (then_code (wpC_false (wpC_skip (then_code (wpC_seq (wpC_region (wpF_run 3 [(272, (vI j)), (271, vT), (270, vT)] (wpF_step (op_b (some 273) (decide (((j : Nat) : Int) ≥ ((0 : Nat) : Int))) true (cmpDT (by omega)) ?_))))))))))
  refine wpF_run 4 [(277, (vI n)), (276, (vI j)), (275, vT), (274, vT)] (wpF_step (op_b (some 278) (decide (((j : Nat) : Int) < ((n : Nat) : Int))) true (cmpDT (by omega)) ?_))
  refine wpF_run 2 [(27, vT), (279, vT)] (wpF_end (then_code (wpC_seq (wpC_region (wpF_run 2 [(282, (vI j)), (281, (vI n))] (wpF_step (op_call (some 283) (c_Path n j _ (by omega) (by omega) (by omega)) ?_)))))))
  rintro _ w20 ⟨a8, rfl, hFz16_0, hEw20⟩
  have hzw20 := hEw20.size
  have hlea8 := hFz16_0.le
  refine wpF_run 5 [(16, (vI 0)), (28, (.slice a8 (hgt n + 1) (hgt n + 1))), (285, (vI 0)), (284, (.slice a8 (hgt n + 1) (hgt n + 1))), (280, (.tuple #[(.slice a8 (hgt n + 1) (hgt n + 1)), (vI 0)]))] (wpF_end (then_code (wpC_seq (wpC_region (wpF_run 2 [(288, (vI j)), (287, (vI n))] (wpF_step (op_call (some 289) (c_Group n j _ (by omega) (by omega) (by omega)) ?_)))))))
  rintro _ w21 ⟨rfl, hEw21⟩
  have hzw21 := hEw21.size
  refine wpF_run 5 [(19, (vI 0)), (292, (vI 0)), (291, (vI (j % 4))), (290, (vA [(vI 0), (vI (j / 4))])), (286, (.tuple #[(vA [(vI 0), (vI (j / 4))]), (vI (j % 4)), (vI 0)]))] (wpF_end (then_code (wpC_seq (wpC_region (wpF_run 3 [(296, (vI 1)), (295, (vI j)), (294, (vI n))] (wpF_step (op_call (some 297) (c_Data n j 1 _ (by omega) (by omega) (by omega) (by omega)) ?_)))))))
  rintro _ w22 ⟨rfl, hEw22⟩
  have hzw22 := hEw22.size
  refine wpF_run 5 [(21, (vI 0)), (20, (vI (2 * j + 1))), (299, (vI 0)), (298, (vI (2 * j + 1))), (293, (.tuple #[(vI (2 * j + 1)), (vI 0)]))] (wpF_end (then_code (wpC_seq (wpC_seq (wpC_region (wpF_run 54 [(353, vF), (352, vF), (351, undef), (350, undef), (349, undef), (348, undef), (347, undef), (346, undef), (345, vF), (344, vF), (343, (vI 0)), (342, vF), (341, vF), (340, vF), (339, undef), (338, undef), (337, undef), (336, undef), (335, undef), (334, undef), (333, undef), (332, undef), (331, undef), (330, undef), (329, undef), (328, undef), (327, vF), (326, vF), (325, (vI 0)), (324, vF), (323, vF), (322, vF), (321, vT), (320, vT), (319, vT), (318, (vI 1)), (317, vF), (316, vF), (315, (vI 1)), (314, vT), (313, vT), (312, vT), (311, (vI 0)), (310, vF), (309, vF), (308, vF), (307, vT), (306, vT), (305, (vI 0)), (304, vF), (303, vF), (302, vT), (301, vT), (300, (vI 0))] (wpF_end (then_code (wpC_false ?_)))))))))
  refine wpC_skip (then_code (wpC_seq (wpC_region (wpF_run 2 [(356, (vI j)), (355, (vI n))] (wpF_step (op_call (some 357) (c_OfAny n j _ (by omega) (by omega) (by omega)) ?_))))))
  rintro _ w23 ⟨a9, a10, a11, a12, rfl, hEw23⟩
  have hzw23 := hEw23.size
  refine wpF_run 3 [(359, (vI 0)), (358, (vA [(.bool a9), (.int .i64 a10), (.int .i64 a11), (.int .i64 a12)])), (354, (.tuple #[(vA [(.bool a9), (.int .i64 a10), (.int .i64 a11), (.int .i64 a12)]), (vI 0)]))] (wpF_step (op_new (some 29) (Instr.alloc 31 true (.tuple #[])) (vP w23.heap.size 0) ([vF, (vI 0), (vI 0), (vI 0)]) 31 ?_))
  intro w24 hBw24 hEw24
  have hzw24 := hEw24.size; have hlw24 := hBw24.lt
  refine wpF_step (op_store 31 w23.heap.size 0 31 (vA [(.bool a9), (.int .i64 a10), (.int .i64 a11), (.int .i64 a12)]) ([vF, (vI 0), (vI 0), (vI 0)]) ([(.bool a9), (.int .i64 a10), (.int .i64 a11), (.int .i64 a12)]) hBw24 (by kernel_rfl) (by first | decide | (simp; done) | (simp; omega)) (by simp [Value.oneCell']) ?_)
  intro w25 hBw25 hCw25
  have hzw25 := hCw25.size
  rw [setFrom_all _ _ (by kernel_rfl)] at hBw25
  refine wpF_run 1 [(16, (vI 0))] (wpF_end (then_code (wpC_seq (wpC_region (wpF_run 3 [(362, (vI j)), (361, vT), (360, vT)] (wpF_step (op_b (some 363) (decide (((j : Nat) : Int) ≥ ((0 : Nat) : Int))) true (cmpDT (by omega)) ?_)))))))
  refine wpF_run 4 [(367, (vI n)), (366, (vI j)), (365, vT), (364, vT)] (wpF_step (op_call (some 368) (c_rSectors n _ (by omega) (by omega)) ?_))
  rintro _ _ ⟨rfl, rfl⟩
  refine wpF_step (op_b (some 369) (decide (((j : Nat) : Int) < ((bas n (hgt n + 1) : Nat) : Int))) true (cmpDT (by omega)) ?_)
  refine wpF_run 2 [(30, vT), (370, vT)] (wpF_end (then_code (wpC_seq (wpC_region (wpF_run 17 [(387, vT), (386, vT), (385, vT), (384, undef), (383, undef), (382, undef), (381, undef), (380, undef), (379, undef), (378, undef), (377, vT), (376, vT), (375, vT), (374, vT), (373, vT), (372, vT), (371, (vI 0))] (wpF_step (op_call (some 388) (c_lives12 _) ?_)))))))
  rintro _ w26 ⟨rfl, hEw26⟩
  have hzw26 := hEw26.size
  refine wpF_run 2 [(2, vT), (389, vT)] (wpF_end (then_code (wpC_ret (body_rets vT ?_))))
  have hX1 : Ext w w26 := ((Ext.own (((((((Ext.own ((((Ext.own ((((((((((((hEw1.trans hEw2).trans hEw3).trans hEw4).trans hEw5).trans hEw6).trans hEw7).trans hEw8).trans hEw9).trans hEw10).trans hEw11).trans hEw12).trans hEw13) hCw14 (by omega)).trans hEw15).trans hEw16).trans hEw17) hCw18 (by omega)).trans hEw19).trans hEw20).trans hEw21).trans hEw22).trans hEw23).trans hEw24) hCw25 (by omega)).trans hEw26)
  exact ⟨rfl, hX1⟩

theorem c_SE_is_in (n : Nat) (l : Nat) (j : Nat) (s : Nat)  (w : World) (hp0 : 1 ≤ n) (hp1 : n ≤ 4096) (hp2 : l ≤ hgt n) (hp3 : j < cnt n l) (hp4 : j < n) (hp5 : s = 2 ∨ s = 3) :
    Calls Try.prog 8 #[(vA [(vI n), (vI l), (vI j), (vI s)])] w (Ret fun r w' => r = vT ∧ Ext w w') := by
  refine calls_of (n := 390) (σ := [(0, (vA [(vI n), (vI l), (vI j), (vI s)]))]) Try.func8 rfl ?_
  have h5 := hgt_le n
  have hbg := bas_ge n (hgt n + 1)
  have hbs := bas_small (l := hgt n + 1) hp1 (by omega)
  have hcn := cnt_n n l
  refine wpC_seq (wpC_region (wpF_step (op_new (some 1) (Instr.box 58 (vA [(vI n), (vI l), (vI j), (vI s)])) (vP w.heap.size 0) ([(vI n), (vI l), (vI j), (vI s)]) 58 ?_)))
  intro w1 hBw1 hEw1
  have hzw1 := hEw1.size; have hlw1 := hBw1.lt
  refine wpF_run 1 [(2, vF)] (wpF_end (then_code (wpC_seq (wpC_drawM (Ext w1.drew) 12 [(32, 2, 0), (33, 2147483648, 1), (34, 2, 0), (35, 8589934592, 4), (36, 2, 0), (37, 34359738368, 16), (38, 2, 0), (39, 137438953472, 64), (4, 4294967296, 3), (5, 17179869184, 271), (6, 68719476736, 831), (7, 274877906944, 2047)] (fun hT476 => ?_)))))
  have hEw2 : Ext w1 w1.drew := Ext.drew w1
  generalize w1.drew = w2 at hEw2 ⊢
  have hzw2 := hEw2.size
  refine anyM_take hT476 0 1 (some 31) (vP w.heap.size 0) (yld_val (Instr.indexAt 58 (vP w.heap.size 0) (vI 0)) (fun w' hC => rn_ixa (E := 3) (sz := 1) (m := 4) (by omega))) (anyM_take hT476 1 3 (some 32) (vI n) (yld_val (Instr.loadAt 3 (vP w.heap.size 0)) (fun w' hC => rn_ld (((hBw1.ext hEw2).ext hC).cell rfl))) (anyM_take hT476 2 7 (some 33) (vP w.heap.size 1) (yld_val (Instr.indexAt 58 (vP w.heap.size 0) (vI 1)) (fun w' hC => rn_ixa (E := 3) (sz := 1) (m := 4) (by omega))) (anyM_take hT476 3 15 (some 34) (vI l) (yld_val (Instr.loadAt 3 (vP w.heap.size 1)) (fun w' hC => rn_ld (((hBw1.ext hEw2).ext hC).cell rfl))) (anyM_take hT476 4 31 (some 35) (vP w.heap.size 2) (yld_val (Instr.indexAt 58 (vP w.heap.size 0) (vI 2)) (fun w' hC => rn_ixa (E := 3) (sz := 1) (m := 4) (by omega))) (anyM_take hT476 5 63 (some 36) (vI j) (yld_val (Instr.loadAt 3 (vP w.heap.size 2)) (fun w' hC => rn_ld (((hBw1.ext hEw2).ext hC).cell rfl))) (anyM_take hT476 6 127 (some 37) (vP w.heap.size 3) (yld_val (Instr.indexAt 58 (vP w.heap.size 0) (vI 3)) (fun w' hC => rn_ixa (E := 3) (sz := 1) (m := 4) (by omega))) (anyM_take hT476 7 255 (some 38) (vI s) (yld_val (Instr.loadAt 3 (vP w.heap.size 3)) (fun w' hC => rn_ld (((hBw1.ext hEw2).ext hC).cell rfl))) (anyM_run hT476 [(8, 3, (vI n)), (9, 4, (vI l)), (10, 5, (vI j)), (11, 6, (vI s))] 4 4095 (anyM_done ?_)))))))))
  refine then_code (wpC_seq (wpC_region (wpF_run 1 [(39, (vI n))] (wpF_step (op_b (some 40) (decide (((n : Nat) : Int) ≥ ((1 : Nat) : Int))) true (cmpDT (by omega)) ?_)))))
  refine wpF_run 2 [(42, (vI n)), (41, vT)] (wpF_step (op_b (some 43) (decide (((n : Nat) : Int) ≤ ((4096 : Nat) : Int))) true (cmpDT (by omega)) ?_))
  refine wpF_run 2 [(7, vT), (44, vT)] (wpF_end (then_code (wpC_seq (wpC_region (wpF_run 5 [(49, (vI j)), (48, (vI l)), (47, (vI n)), (46, vT), (45, vT)] (wpF_step (op_call (some 50) (c_rIs n l j _ (by omega) (by omega) (by omega) (by omega)) ?_)))))))
  rintro _ _ ⟨rfl, rfl⟩
  refine wpF_run 2 [(8, vT), (51, vT)] (wpF_end (then_code (wpC_seq (wpC_region (wpF_run 1 [(53, (vI n))] (wpF_step (op_call (some 54) (c_Height n _ (by omega) (by omega)) ?_)))))))
  rintro _ w3 ⟨rfl, hEw3⟩
  have hzw3 := hEw3.size
  refine wpF_run 5 [(10, (vI 0)), (9, (vI (hgt n))), (56, (vI 0)), (55, (vI (hgt n))), (52, (.tuple #[(vI (hgt n)), (vI 0)]))] (wpF_end (then_code (wpC_seq (wpC_region (wpF_run 1 [(58, (vI n))] (wpF_step (op_call (some 59) (c_Total n _ (by omega) (by omega)) ?_)))))))
  rintro _ w4 ⟨rfl, hEw4⟩
  have hzw4 := hEw4.size
  refine wpF_run 5 [(12, (vI 0)), (11, (vI (tot n))), (61, (vI 0)), (60, (vI (tot n))), (57, (.tuple #[(vI (tot n)), (vI 0)]))] (wpF_end (then_code (wpC_seq (wpC_region (wpF_run 1 [(63, (vI n))] (wpF_step (op_call (some 64) (c_Sectors n _ (by omega) (by omega)) ?_)))))))
  rintro _ w5 ⟨rfl, hEw5⟩
  have hzw5 := hEw5.size
  refine wpF_run 5 [(14, (vI 0)), (13, (vI (bas n (hgt n + 1)))), (66, (vI 0)), (65, (vI (bas n (hgt n + 1)))), (62, (.tuple #[(vI (bas n (hgt n + 1))), (vI 0)]))] (wpF_end (then_code (wpC_seq (wpC_seq (wpC_region (wpF_run 18 [(84, (vI n)), (83, vF), (82, vF), (81, vF), (80, vT), (79, vT), (78, (vI 0)), (77, vF), (76, vF), (75, vF), (74, vT), (73, vT), (72, (vI 0)), (71, vF), (70, vF), (69, vT), (68, vT), (67, (vI 0))] (wpF_step (op_call (some 85) (c_Check n _ (by omega) (by omega)) ?_))))))))
  rintro _ _ ⟨rfl, rfl⟩
  refine wpF_run 21 [(106, vF), (105, vF), (104, undef), (103, undef), (102, vF), (101, vF), (100, vT), (99, vF), (98, vF), (97, vF), (96, (vI 0)), (95, (vI 0)), (94, vF), (93, vF), (92, vF), (91, (vI 0)), (90, (vI 0)), (89, vF), (88, vF), (87, vF), (86, (vI 0))] (wpF_end (then_code (wpC_false (wpC_skip (then_code (wpC_seq (wpC_region (wpF_run 2 [(109, (vI l)), (108, (vI n))] (wpF_step (op_call (some 110) (c_Count n l _ (by omega) (by omega) (by omega)) ?_))))))))))
  rintro _ w6 ⟨rfl, hEw6⟩
  have hzw6 := hEw6.size
  refine wpF_run 5 [(16, (vI 0)), (15, (vI (cnt n l))), (112, (vI 0)), (111, (vI (cnt n l))), (107, (.tuple #[(vI (cnt n l)), (vI 0)]))] (wpF_end (then_code (wpC_seq (wpC_seq (wpC_region (wpF_run 6 [(118, (vI l)), (117, (vI n)), (116, vT), (115, vT), (114, vT), (113, (vI 0))] (wpF_step (op_call (some 119) (c_rIs n l 0 _ (by omega) (by omega) (by omega) (cnt_pos hp0 l)) ?_))))))))
  rintro _ _ ⟨rfl, rfl⟩
  refine wpF_run 14 [(133, vF), (132, vF), (131, undef), (130, undef), (129, undef), (128, undef), (127, undef), (126, undef), (125, vF), (124, vF), (123, (vI 0)), (122, vF), (121, vF), (120, vT)] (wpF_end (then_code (wpC_false (wpC_skip (then_code (wpC_seq (wpC_region (wpF_run 3 [(137, (vI j)), (136, (vI l)), (135, (vI n))] (wpF_step (op_call (some 138) (c_Parts n l j _ (by omega) (by omega) (by omega) (by omega)) ?_))))))))))
  rintro _ w7 ⟨rfl, hEw7⟩
  have hzw7 := hEw7.size
  refine wpF_run 5 [(16, (vI 0)), (15, (vI (prt n l j))), (140, (vI 0)), (139, (vI (prt n l j))), (134, (.tuple #[(vI (prt n l j)), (vI 0)]))] (wpF_end (then_code (wpC_seq (wpC_region (wpF_run 3 [(144, (vI j)), (143, (vI l)), (142, (vI n))] (wpF_step (op_call (some 145) (c_place l j _) ?_)))))))
  rintro _ w8 ⟨rfl, hEw8⟩
  have hzw8 := hEw8.size
  refine wpF_step (op_call (some 146) (c_Blocks n l j _ (by omega) (by omega) (by omega) (by omega)) ?_)
  rintro _ w9 ⟨rfl, hEw9⟩
  have hzw9 := hEw9.size
  refine wpF_run 7 [(19, (vI 0)), (18, (vI (min n ((j + 1) * wid l)))), (17, (vI (j * wid l))), (149, (vI 0)), (148, (vI (min n ((j + 1) * wid l)))), (147, (vI (j * wid l))), (141, (.tuple #[(vI (j * wid l)), (vI (min n ((j + 1) * wid l))), (vI 0)]))] (wpF_end (then_code (wpC_seq (wpC_region (wpF_run 4 [(154, (vI s)), (153, (vI j)), (152, (vI l)), (151, (vI n))] (wpF_step (op_call (some 155) (c_NodeSlot n l j ((s : Nat) : Int) _ (by omega) (by omega) (by omega) (by omega) (by omega) (by omega)) ?_)))))))
  rintro _ w10 ⟨rfl, hEw10⟩
  have hzw10 := hEw10.size
  refine wpF_run 5 [(21, (vI 1)), (20, (vI 0)), (157, (vI 1)), (156, (vI 0)), (150, (.tuple #[(vI 0), (vI 1)]))] (wpF_end (then_code (wpC_seq (wpC_seq (wpC_region (wpF_run 16 [(173, (vI s)), (172, vT), (171, vT), (170, vF), (169, (vI 1)), (168, vF), (167, vF), (166, vF), (165, vT), (164, vT), (163, (vI 0)), (162, vF), (161, vF), (160, vT), (159, vT), (158, (vI 0))] (wpF_step (op_b (some 174) (((s : Nat) : Int) == ((0 : Nat) : Int)) false (cmpEqF (by omega)) ?_))))))))
  refine wpF_run 2 [(176, (vI s)), (175, vF)] (wpF_step (op_b (some 177) (((s : Nat) : Int) == ((1 : Nat) : Int)) false (cmpEqF (by omega)) ?_))
  refine wpF_run 4 [(181, vF), (180, vF), (179, vF), (178, vF)] (wpF_end (then_code (wpC_false (wpC_skip (then_code (wpC_seq (wpC_seq (wpC_region (wpF_run 34 [(215, vF), (214, vF), (213, vF), (212, vF), (211, (vI 0)), (210, vF), (209, vF), (208, (vI 1)), (207, vT), (206, vT), (205, (vI 1)), (204, vF), (203, vF), (202, undef), (201, undef), (200, undef), (199, undef), (198, undef), (197, undef), (196, undef), (195, undef), (194, undef), (193, undef), (192, undef), (191, undef), (190, undef), (189, undef), (188, undef), (187, undef), (186, undef), (185, undef), (184, vF), (183, vF), (182, (vI 0))] ?_)))))))))
  refine wpF_end (then_code (wpC_false (wpC_skip (then_code (wpC_seq (wpC_region (wpF_run 3 [(219, (vI j)), (218, (vI l)), (217, (vI n))] (wpF_step (op_call (some 220) (c_place l j _) ?_)))))))))
  rintro _ w11 ⟨rfl, hEw11⟩
  have hzw11 := hEw11.size
  refine wpF_step (op_call (some 221) (c_ParentAny n l j _ (by omega) (by omega) (by omega) (by omega)) ?_)
  rintro _ w12 ⟨a1, a2, a3, a4, rfl, hEw12⟩
  have hzw12 := hEw12.size
  refine wpF_run 4 [(224, (.int .i64 a4)), (223, (.int .i64 a3)), (222, (vA [(.int .i64 a1), (.int .i64 a2)])), (216, (.tuple #[(vA [(.int .i64 a1), (.int .i64 a2)]), (.int .i64 a3), (.int .i64 a4)]))] (wpF_step (op_new (some 22) (Instr.alloc 45 true (.tuple #[])) (vP w12.heap.size 0) ([(vI 0), (vI 0)]) 45 ?_))
  intro w13 hBw13 hEw13
  have hzw13 := hEw13.size; have hlw13 := hBw13.lt
  refine wpF_step (op_store 45 w12.heap.size 0 45 (vA [(.int .i64 a1), (.int .i64 a2)]) ([(vI 0), (vI 0)]) ([(.int .i64 a1), (.int .i64 a2)]) hBw13 (by kernel_rfl) (by first | decide | (simp; done) | (simp; omega)) (by simp [Value.oneCell']) ?_)
  intro w14 hBw14 hCw14
  have hzw14 := hCw14.size
  rw [setFrom_all _ _ (by kernel_rfl)] at hBw14
  refine wpF_run 2 [(24, (.int .i64 a4)), (23, (.int .i64 a3))] (wpF_end (then_code (wpC_seq (wpC_region (wpF_run 3 [(228, (vI j)), (227, (vI l)), (226, (vI n))] (wpF_step (op_call (some 229) (c_place l j _) ?_)))))))
  rintro _ w15 ⟨rfl, hEw15⟩
  have hzw15 := hEw15.size
  refine wpF_run 1 [(230, (vI s))] (wpF_step (op_call (some 231) (c_ChildAny n l j s _ (by omega) (by omega) (by omega) (by omega) (by omega)) ?_))
  rintro _ w16 ⟨a5, a6, a7, rfl, hEw16⟩
  have hzw16 := hEw16.size
  refine wpF_run 3 [(233, (.int .i64 a7)), (232, (vA [(.int .i64 a5), (.int .i64 a6)])), (225, (.tuple #[(vA [(.int .i64 a5), (.int .i64 a6)]), (.int .i64 a7)]))] (wpF_step (op_new (some 25) (Instr.alloc 45 true (.tuple #[])) (vP w16.heap.size 0) ([(vI 0), (vI 0)]) 45 ?_))
  intro w17 hBw17 hEw17
  have hzw17 := hEw17.size; have hlw17 := hBw17.lt
  refine wpF_step (op_store 45 w16.heap.size 0 45 (vA [(.int .i64 a5), (.int .i64 a6)]) ([(vI 0), (vI 0)]) ([(.int .i64 a5), (.int .i64 a6)]) hBw17 (by kernel_rfl) (by first | decide | (simp; done) | (simp; omega)) (by simp [Value.oneCell']) ?_)
  intro w18 hBw18 hCw18
  have hzw18 := hCw18.size
  rw [setFrom_all _ _ (by kernel_rfl)] at hBw18
  refine wpF_run 1 [(26, (.int .i64 a7))] (wpF_end (then_code (wpC_seq (wpC_seq ?_))))
  refine wpC_drawM (Ext w18.drew) 36 [(235, 256, 0), (236, 27606985387162255149739023449108101809804435888681546220650096895197184, 1), (237, 55213970774324510299478046898216203619608871777363092441300193790394368, 2), (238, 110427941548649020598956093796432407239217743554726184882600387597565952, 4), (239, 331283824645947061796868281389297221717653230664178554647801162742366208, 12), (240, 552139707743245102994780468982162036196088717773630924413001937903943680, 20), (241, 883423532389192164791648750371459257913741948437809479060803100650504192, 32), (242, 883423532389192164791648750371459257913741948437809479060803100646309888, 32), (243, 6183964726724345153541541252600214805396193639064666353425621704524169216, 224), (244, 8061239733051378503723794847139565728462895279495011496429828293397577728, 292), (245, 14245204459775723657265336099739780533859088918559677849855449997921746944, 644), (246, 28269553036454149273332760011886696253239742350009903329945699220690305024, 1024), (247, 84808659109362447819998280035660088759719227050029709989837097662045749248, 3072), (248, 141458193123819395387262756153229913673437929493604242834611096490990370816, 5124), (249, 226266852233181843207261036188890002433157156543633952824448194153036120064, 8196), (250, 452312848583266388373324160190187140051835877600158453279131187530910662656, 17408), (251, 904625697166532776746648320380374280103671755200316906558262375061821325568, 32768), (252, 2713877091499598330239944961141122840311015265600950719674787125185463975936, 98304), (253, 4523128485832663883733241601901871400518358776001584532791311875309106626560, 163840), (254, 7237005577332262213973186563042994240829374041602535252466099000494570602560, 262144), (255, 21711016731996786641919559689128982722488122124807605757398297001483711807488, 786432), (256, 37089653583827843846612581135595345484250541963212993168888757377534674337792, 1343488), (257, 58800670315824630488532140824724328206738664088020598926287054379018386145280, 2392064), (258, 115792089237316195423570985008687907853269984665640564039457584007913129640000, 4194304), (259, 347376267711948586270712955026063723559809953996921692118372752023739388919808, 12582912), (260, 579865071883747509894601573363819913546453595083403137103846182414627469524992, 21004288), (261, 927241339595696096165314528389883637106263549080324829222218934438366858444800, 37781504), (262, 1852673427797059126777135760139006525652319754650249024631321344126610141347840, 67108864), (263, 5558020283391177380331407280417019576956959263950747073893964032379830222716928, 201326592), (264, 9263367138985295633885678800695032628261598773251245123156606720633050371194880, 335544320), (265, 14821387422376473014217086081112052205218558037201992197050570753012880627466240, 536870912), (266, 14821387422376473014217086081112052205218558037201992197050570753012880593911808, 536870912), (267, 103749711956635311099519602567784365436529906260413945379353995271090164157382656, 3758096384), (268, 135245160229185316254730910490147476372619342089468178798086458121242535419445248, 4898947072), (269, 238995776811517793887027259706252222183429352021637324494347011654707761398153216, 8657076224), (270, 474285302141744302987723501243906050941273960862218950622524822358787240826503168, 17179901952)] (fun hT663 => ?_)
  have hEw19 : Ext w18 w18.drew := Ext.drew w18
  generalize w18.drew = w19 at hEw19 ⊢
  have hzw19 := hEw19.size
  refine anyM_run hT663 [(0, 234, vT), (1, 235, vF), (2, 236, vF), (3, 237, undef), (4, 238, undef), (5, 239, undef), (6, 240, undef), (7, 241, undef), (8, 242, undef), (9, 243, undef), (10, 244, undef), (11, 245, undef), (12, 246, undef), (13, 247, undef), (14, 248, vF), (15, 249, vF), (16, 250, vT), (17, 251, vF), (18, 252, vF), (19, 253, (vI s))] 20 1048575 (anyM_take hT663 20 2097151 (some 254) vF (yld_b (decide (((s : Nat) : Int) < ((0 : Nat) : Int))) (cmpDF (by omega))) (anyM_run hT663 [(21, 255, vF), (22, 256, vF), (23, 257, (vI s))] 3 16777215 (anyM_take hT663 24 33554431 (some 258) vF (yld_b (decide (((s : Nat) : Int) > ((3 : Nat) : Int))) (cmpDF (by omega))) (anyM_run hT663 [(25, 259, vF), (26, 260, vF), (27, 261, undef), (28, 262, undef), (29, 263, undef), (30, 264, undef), (31, 265, undef), (32, 266, undef), (33, 267, undef), (34, 268, vF), (35, 269, vF)] 11 68719476735 (anyM_done (then_code (wpC_false (wpC_skip (then_code ?_)))))))))
  refine wpC_seq (wpC_region (wpF_run 3 [(272, (vI j)), (271, vT), (270, vT)] (wpF_step (op_b (some 273) (decide (((j : Nat) : Int) ≥ ((0 : Nat) : Int))) true (cmpDT (by omega)) ?_))))
  refine wpF_run 4 [(277, (vI n)), (276, (vI j)), (275, vT), (274, vT)] (wpF_step (op_b (some 278) (decide (((j : Nat) : Int) < ((n : Nat) : Int))) true (cmpDT (by omega)) ?_))
  refine wpF_run 2 [(27, vT), (279, vT)] (wpF_end (then_code (wpC_seq (wpC_region (wpF_run 2 [(282, (vI j)), (281, (vI n))] (wpF_step (op_call (some 283) (c_Path n j _ (by omega) (by omega) (by omega)) ?_)))))))
  rintro _ w20 ⟨a8, rfl, hFz16_0, hEw20⟩
  have hzw20 := hEw20.size
  have hlea8 := hFz16_0.le
  refine wpF_run 5 [(16, (vI 0)), (28, (.slice a8 (hgt n + 1) (hgt n + 1))), (285, (vI 0)), (284, (.slice a8 (hgt n + 1) (hgt n + 1))), (280, (.tuple #[(.slice a8 (hgt n + 1) (hgt n + 1)), (vI 0)]))] (wpF_end (then_code (wpC_seq (wpC_region (wpF_run 2 [(288, (vI j)), (287, (vI n))] (wpF_step (op_call (some 289) (c_Group n j _ (by omega) (by omega) (by omega)) ?_)))))))
  rintro _ w21 ⟨rfl, hEw21⟩
  have hzw21 := hEw21.size
  refine wpF_run 5 [(19, (vI 0)), (292, (vI 0)), (291, (vI (j % 4))), (290, (vA [(vI 0), (vI (j / 4))])), (286, (.tuple #[(vA [(vI 0), (vI (j / 4))]), (vI (j % 4)), (vI 0)]))] (wpF_end (then_code (wpC_seq (wpC_region (wpF_run 3 [(296, (vI s)), (295, (vI j)), (294, (vI n))] (wpF_step (op_call (some 297) (c_DataSlot n j ((s : Nat) : Int) _ (by omega) (by omega) (by omega) (by omega) (by omega)) ?_)))))))
  rintro _ w22 ⟨rfl, hEw22⟩
  have hzw22 := hEw22.size
  refine wpF_run 5 [(21, (vI 1)), (20, (vI 0)), (299, (vI 1)), (298, (vI 0)), (293, (.tuple #[(vI 0), (vI 1)]))] (wpF_end (then_code (wpC_seq (wpC_seq (wpC_region (wpF_run 16 [(315, (vI s)), (314, vT), (313, vT), (312, vF), (311, (vI 1)), (310, vF), (309, vF), (308, vF), (307, vT), (306, vT), (305, (vI 0)), (304, vF), (303, vF), (302, vT), (301, vT), (300, (vI 0))] (wpF_step (op_b (some 316) (((s : Nat) : Int) == ((0 : Nat) : Int)) false (cmpEqF (by omega)) ?_))))))))
  refine wpF_run 2 [(318, (vI s)), (317, vF)] (wpF_step (op_b (some 319) (((s : Nat) : Int) == ((1 : Nat) : Int)) false (cmpEqF (by omega)) ?_))
  refine wpF_run 34 [(353, vF), (352, vF), (351, vF), (350, vF), (349, (vI 0)), (348, vF), (347, vF), (346, (vI 1)), (345, vT), (344, vT), (343, (vI 1)), (342, vF), (341, vF), (340, vF), (339, undef), (338, undef), (337, undef), (336, undef), (335, undef), (334, undef), (333, undef), (332, undef), (331, undef), (330, undef), (329, undef), (328, undef), (327, vF), (326, vF), (325, (vI 0)), (324, vF), (323, vF), (322, vF), (321, vF), (320, vF)] (wpF_end (then_code (wpC_false (wpC_skip (then_code (wpC_seq (wpC_region (wpF_run 2 [(356, (vI j)), (355, (vI n))] (wpF_step (op_call (some 357) (c_OfAny n j _ (by omega) (by omega) (by omega)) ?_))))))))))
  rintro _ w23 ⟨a9, a10, a11, a12, rfl, hEw23⟩
  have hzw23 := hEw23.size
  refine wpF_run 3 [(359, (vI 0)), (358, (vA [(.bool a9), (.int .i64 a10), (.int .i64 a11), (.int .i64 a12)])), (354, (.tuple #[(vA [(.bool a9), (.int .i64 a10), (.int .i64 a11), (.int .i64 a12)]), (vI 0)]))] (wpF_step (op_new (some 29) (Instr.alloc 31 true (.tuple #[])) (vP w23.heap.size 0) ([vF, (vI 0), (vI 0), (vI 0)]) 31 ?_))
  intro w24 hBw24 hEw24
  have hzw24 := hEw24.size; have hlw24 := hBw24.lt
  refine wpF_step (op_store 31 w23.heap.size 0 31 (vA [(.bool a9), (.int .i64 a10), (.int .i64 a11), (.int .i64 a12)]) ([vF, (vI 0), (vI 0), (vI 0)]) ([(.bool a9), (.int .i64 a10), (.int .i64 a11), (.int .i64 a12)]) hBw24 (by kernel_rfl) (by first | decide | (simp; done) | (simp; omega)) (by simp [Value.oneCell']) ?_)
  intro w25 hBw25 hCw25
  have hzw25 := hCw25.size
  rw [setFrom_all _ _ (by kernel_rfl)] at hBw25
  refine wpF_run 1 [(16, (vI 0))] (wpF_end (then_code (wpC_seq (wpC_region (wpF_run 3 [(362, (vI j)), (361, vT), (360, vT)] (wpF_step (op_b (some 363) (decide (((j : Nat) : Int) ≥ ((0 : Nat) : Int))) true (cmpDT (by omega)) ?_)))))))
  refine wpF_run 4 [(367, (vI n)), (366, (vI j)), (365, vT), (364, vT)] (wpF_step (op_call (some 368) (c_rSectors n _ (by omega) (by omega)) ?_))
  rintro _ _ ⟨rfl, rfl⟩
  refine wpF_step (op_b (some 369) (decide (((j : Nat) : Int) < ((bas n (hgt n + 1) : Nat) : Int))) true (cmpDT (by omega)) ?_)
  refine wpF_run 2 [(30, vT), (370, vT)] (wpF_end (then_code (wpC_seq (wpC_region (wpF_run 17 [(387, vT), (386, vT), (385, vT), (384, undef), (383, undef), (382, undef), (381, undef), (380, undef), (379, undef), (378, undef), (377, vT), (376, vT), (375, vT), (374, vT), (373, vT), (372, vT), (371, (vI 0))] (wpF_step (op_call (some 388) (c_lives12 _) ?_)))))))
  rintro _ w26 ⟨rfl, hEw26⟩
  have hzw26 := hEw26.size
  refine wpF_run 2 [(2, vT), (389, vT)] (wpF_end (then_code (wpC_ret (body_rets vT ?_))))
  have hX1 : Ext w w26 := ((Ext.own (((((((Ext.own ((((Ext.own ((((((((((((hEw1.trans hEw2).trans hEw3).trans hEw4).trans hEw5).trans hEw6).trans hEw7).trans hEw8).trans hEw9).trans hEw10).trans hEw11).trans hEw12).trans hEw13) hCw14 (by omega)).trans hEw15).trans hEw16).trans hEw17) hCw18 (by omega)).trans hEw19).trans hEw20).trans hEw21).trans hEw22).trans hEw23).trans hEw24) hCw25 (by omega)).trans hEw26)
  exact ⟨rfl, hX1⟩

theorem c_SE_is_lt (n : Nat) (l : Nat) (j : Nat) (s : Int)  (w : World) (hp0 : 1 ≤ n) (hp1 : n ≤ 4096) (hp2 : l ≤ hgt n) (hp3 : j < cnt n l) (hp4 : j < n) (hp5 : s < 0) :
    Calls Try.prog 8 #[(vA [(vI n), (vI l), (vI j), (.int .i64 s)])] w (Ret fun r w' => r = vT ∧ Ext w w') := by
  refine calls_of (n := 390) (σ := [(0, (vA [(vI n), (vI l), (vI j), (.int .i64 s)]))]) Try.func8 rfl ?_
  have h5 := hgt_le n
  have hbg := bas_ge n (hgt n + 1)
  have hbs := bas_small (l := hgt n + 1) hp1 (by omega)
  have hcn := cnt_n n l
  refine wpC_seq (wpC_region (wpF_step (op_new (some 1) (Instr.box 58 (vA [(vI n), (vI l), (vI j), (.int .i64 s)])) (vP w.heap.size 0) ([(vI n), (vI l), (vI j), (.int .i64 s)]) 58 ?_)))
  intro w1 hBw1 hEw1
  have hzw1 := hEw1.size; have hlw1 := hBw1.lt
  refine wpF_run 1 [(2, vF)] (wpF_end (then_code (wpC_seq (wpC_drawM (Ext w1.drew) 12 [(32, 2, 0), (33, 2147483648, 1), (34, 2, 0), (35, 8589934592, 4), (36, 2, 0), (37, 34359738368, 16), (38, 2, 0), (39, 137438953472, 64), (4, 4294967296, 3), (5, 17179869184, 271), (6, 68719476736, 831), (7, 274877906944, 2047)] (fun hT593 => ?_)))))
  have hEw2 : Ext w1 w1.drew := Ext.drew w1
  generalize w1.drew = w2 at hEw2 ⊢
  have hzw2 := hEw2.size
  refine anyM_take hT593 0 1 (some 31) (vP w.heap.size 0) (yld_val (Instr.indexAt 58 (vP w.heap.size 0) (vI 0)) (fun w' hC => rn_ixa (E := 3) (sz := 1) (m := 4) (by omega))) (anyM_take hT593 1 3 (some 32) (vI n) (yld_val (Instr.loadAt 3 (vP w.heap.size 0)) (fun w' hC => rn_ld (((hBw1.ext hEw2).ext hC).cell rfl))) (anyM_take hT593 2 7 (some 33) (vP w.heap.size 1) (yld_val (Instr.indexAt 58 (vP w.heap.size 0) (vI 1)) (fun w' hC => rn_ixa (E := 3) (sz := 1) (m := 4) (by omega))) (anyM_take hT593 3 15 (some 34) (vI l) (yld_val (Instr.loadAt 3 (vP w.heap.size 1)) (fun w' hC => rn_ld (((hBw1.ext hEw2).ext hC).cell rfl))) (anyM_take hT593 4 31 (some 35) (vP w.heap.size 2) (yld_val (Instr.indexAt 58 (vP w.heap.size 0) (vI 2)) (fun w' hC => rn_ixa (E := 3) (sz := 1) (m := 4) (by omega))) (anyM_take hT593 5 63 (some 36) (vI j) (yld_val (Instr.loadAt 3 (vP w.heap.size 2)) (fun w' hC => rn_ld (((hBw1.ext hEw2).ext hC).cell rfl))) (anyM_take hT593 6 127 (some 37) (vP w.heap.size 3) (yld_val (Instr.indexAt 58 (vP w.heap.size 0) (vI 3)) (fun w' hC => rn_ixa (E := 3) (sz := 1) (m := 4) (by omega))) (anyM_take hT593 7 255 (some 38) (.int .i64 s) (yld_val (Instr.loadAt 3 (vP w.heap.size 3)) (fun w' hC => rn_ld (((hBw1.ext hEw2).ext hC).cell rfl))) (anyM_run hT593 [(8, 3, (vI n)), (9, 4, (vI l)), (10, 5, (vI j)), (11, 6, (.int .i64 s))] 4 4095 (anyM_done ?_)))))))))
  refine then_code (wpC_seq (wpC_region (wpF_run 1 [(39, (vI n))] (wpF_step (op_b (some 40) (decide (((n : Nat) : Int) ≥ ((1 : Nat) : Int))) true (cmpDT (by omega)) ?_)))))
  refine wpF_run 2 [(42, (vI n)), (41, vT)] (wpF_step (op_b (some 43) (decide (((n : Nat) : Int) ≤ ((4096 : Nat) : Int))) true (cmpDT (by omega)) ?_))
  refine wpF_run 2 [(7, vT), (44, vT)] (wpF_end (then_code (wpC_seq (wpC_region (wpF_run 5 [(49, (vI j)), (48, (vI l)), (47, (vI n)), (46, vT), (45, vT)] (wpF_step (op_call (some 50) (c_rIs n l j _ (by omega) (by omega) (by omega) (by omega)) ?_)))))))
  rintro _ _ ⟨rfl, rfl⟩
  refine wpF_run 2 [(8, vT), (51, vT)] (wpF_end (then_code (wpC_seq (wpC_region (wpF_run 1 [(53, (vI n))] (wpF_step (op_call (some 54) (c_Height n _ (by omega) (by omega)) ?_)))))))
  rintro _ w3 ⟨rfl, hEw3⟩
  have hzw3 := hEw3.size
  refine wpF_run 5 [(10, (vI 0)), (9, (vI (hgt n))), (56, (vI 0)), (55, (vI (hgt n))), (52, (.tuple #[(vI (hgt n)), (vI 0)]))] (wpF_end (then_code (wpC_seq (wpC_region (wpF_run 1 [(58, (vI n))] (wpF_step (op_call (some 59) (c_Total n _ (by omega) (by omega)) ?_)))))))
  rintro _ w4 ⟨rfl, hEw4⟩
  have hzw4 := hEw4.size
  refine wpF_run 5 [(12, (vI 0)), (11, (vI (tot n))), (61, (vI 0)), (60, (vI (tot n))), (57, (.tuple #[(vI (tot n)), (vI 0)]))] (wpF_end (then_code (wpC_seq (wpC_region (wpF_run 1 [(63, (vI n))] (wpF_step (op_call (some 64) (c_Sectors n _ (by omega) (by omega)) ?_)))))))
  rintro _ w5 ⟨rfl, hEw5⟩
  have hzw5 := hEw5.size
  refine wpF_run 5 [(14, (vI 0)), (13, (vI (bas n (hgt n + 1)))), (66, (vI 0)), (65, (vI (bas n (hgt n + 1)))), (62, (.tuple #[(vI (bas n (hgt n + 1))), (vI 0)]))] (wpF_end (then_code (wpC_seq (wpC_seq (wpC_region (wpF_run 18 [(84, (vI n)), (83, vF), (82, vF), (81, vF), (80, vT), (79, vT), (78, (vI 0)), (77, vF), (76, vF), (75, vF), (74, vT), (73, vT), (72, (vI 0)), (71, vF), (70, vF), (69, vT), (68, vT), (67, (vI 0))] (wpF_step (op_call (some 85) (c_Check n _ (by omega) (by omega)) ?_))))))))
  rintro _ _ ⟨rfl, rfl⟩
  refine wpF_run 21 [(106, vF), (105, vF), (104, undef), (103, undef), (102, vF), (101, vF), (100, vT), (99, vF), (98, vF), (97, vF), (96, (vI 0)), (95, (vI 0)), (94, vF), (93, vF), (92, vF), (91, (vI 0)), (90, (vI 0)), (89, vF), (88, vF), (87, vF), (86, (vI 0))] (wpF_end (then_code (wpC_false (wpC_skip (then_code (wpC_seq (wpC_region (wpF_run 2 [(109, (vI l)), (108, (vI n))] (wpF_step (op_call (some 110) (c_Count n l _ (by omega) (by omega) (by omega)) ?_))))))))))
  rintro _ w6 ⟨rfl, hEw6⟩
  have hzw6 := hEw6.size
  refine wpF_run 5 [(16, (vI 0)), (15, (vI (cnt n l))), (112, (vI 0)), (111, (vI (cnt n l))), (107, (.tuple #[(vI (cnt n l)), (vI 0)]))] (wpF_end (then_code (wpC_seq (wpC_seq (wpC_region (wpF_run 6 [(118, (vI l)), (117, (vI n)), (116, vT), (115, vT), (114, vT), (113, (vI 0))] (wpF_step (op_call (some 119) (c_rIs n l 0 _ (by omega) (by omega) (by omega) (cnt_pos hp0 l)) ?_))))))))
  rintro _ _ ⟨rfl, rfl⟩
  refine wpF_run 14 [(133, vF), (132, vF), (131, undef), (130, undef), (129, undef), (128, undef), (127, undef), (126, undef), (125, vF), (124, vF), (123, (vI 0)), (122, vF), (121, vF), (120, vT)] (wpF_end (then_code (wpC_false (wpC_skip (then_code (wpC_seq (wpC_region (wpF_run 3 [(137, (vI j)), (136, (vI l)), (135, (vI n))] (wpF_step (op_call (some 138) (c_Parts n l j _ (by omega) (by omega) (by omega) (by omega)) ?_))))))))))
  rintro _ w7 ⟨rfl, hEw7⟩
  have hzw7 := hEw7.size
  refine wpF_run 5 [(16, (vI 0)), (15, (vI (prt n l j))), (140, (vI 0)), (139, (vI (prt n l j))), (134, (.tuple #[(vI (prt n l j)), (vI 0)]))] (wpF_end (then_code (wpC_seq (wpC_region (wpF_run 3 [(144, (vI j)), (143, (vI l)), (142, (vI n))] (wpF_step (op_call (some 145) (c_place l j _) ?_)))))))
  rintro _ w8 ⟨rfl, hEw8⟩
  have hzw8 := hEw8.size
  refine wpF_step (op_call (some 146) (c_Blocks n l j _ (by omega) (by omega) (by omega) (by omega)) ?_)
  rintro _ w9 ⟨rfl, hEw9⟩
  have hzw9 := hEw9.size
  refine wpF_run 7 [(19, (vI 0)), (18, (vI (min n ((j + 1) * wid l)))), (17, (vI (j * wid l))), (149, (vI 0)), (148, (vI (min n ((j + 1) * wid l)))), (147, (vI (j * wid l))), (141, (.tuple #[(vI (j * wid l)), (vI (min n ((j + 1) * wid l))), (vI 0)]))] (wpF_end (then_code (wpC_seq (wpC_region (wpF_run 4 [(154, (.int .i64 s)), (153, (vI j)), (152, (vI l)), (151, (vI n))] (wpF_step (op_call (some 155) (c_NodeSlot n l j s _ (by omega) (by omega) (by omega) (by omega) (by omega) (by omega)) ?_)))))))
  rintro _ w10 ⟨rfl, hEw10⟩
  have hzw10 := hEw10.size
  refine wpF_run 5 [(21, (vI 1)), (20, (vI 0)), (157, (vI 1)), (156, (vI 0)), (150, (.tuple #[(vI 0), (vI 1)]))] (wpF_end (then_code (wpC_seq (wpC_seq (wpC_region (wpF_run 16 [(173, (.int .i64 s)), (172, vT), (171, vT), (170, vF), (169, (vI 1)), (168, vF), (167, vF), (166, vF), (165, vT), (164, vT), (163, (vI 0)), (162, vF), (161, vF), (160, vT), (159, vT), (158, (vI 0))] (wpF_step (op_b (some 174) (s == ((0 : Nat) : Int)) false (cmpEqF (by omega)) ?_))))))))
  refine wpF_run 2 [(176, (.int .i64 s)), (175, vF)] (wpF_step (op_b (some 177) (s == ((1 : Nat) : Int)) false (cmpEqF (by omega)) ?_))
  refine wpF_run 4 [(181, vF), (180, vF), (179, vF), (178, vF)] (wpF_end (then_code (wpC_false (wpC_skip (then_code (wpC_seq (wpC_seq (wpC_region (wpF_run 34 [(215, vF), (214, vF), (213, vF), (212, vF), (211, (vI 0)), (210, vF), (209, vF), (208, (vI 1)), (207, vT), (206, vT), (205, (vI 1)), (204, vF), (203, vF), (202, undef), (201, undef), (200, undef), (199, undef), (198, undef), (197, undef), (196, undef), (195, undef), (194, undef), (193, undef), (192, undef), (191, undef), (190, undef), (189, undef), (188, undef), (187, undef), (186, undef), (185, undef), (184, vF), (183, vF), (182, (vI 0))] ?_)))))))))
  refine wpF_end (then_code (wpC_false (wpC_skip (then_code (wpC_seq (wpC_region (wpF_run 3 [(219, (vI j)), (218, (vI l)), (217, (vI n))] (wpF_step (op_call (some 220) (c_place l j _) ?_)))))))))
  rintro _ w11 ⟨rfl, hEw11⟩
  have hzw11 := hEw11.size
  refine wpF_step (op_call (some 221) (c_ParentAny n l j _ (by omega) (by omega) (by omega) (by omega)) ?_)
  rintro _ w12 ⟨a1, a2, a3, a4, rfl, hEw12⟩
  have hzw12 := hEw12.size
  refine wpF_run 4 [(224, (.int .i64 a4)), (223, (.int .i64 a3)), (222, (vA [(.int .i64 a1), (.int .i64 a2)])), (216, (.tuple #[(vA [(.int .i64 a1), (.int .i64 a2)]), (.int .i64 a3), (.int .i64 a4)]))] (wpF_step (op_new (some 22) (Instr.alloc 45 true (.tuple #[])) (vP w12.heap.size 0) ([(vI 0), (vI 0)]) 45 ?_))
  intro w13 hBw13 hEw13
  have hzw13 := hEw13.size; have hlw13 := hBw13.lt
  refine wpF_step (op_store 45 w12.heap.size 0 45 (vA [(.int .i64 a1), (.int .i64 a2)]) ([(vI 0), (vI 0)]) ([(.int .i64 a1), (.int .i64 a2)]) hBw13 (by kernel_rfl) (by first | decide | (simp; done) | (simp; omega)) (by simp [Value.oneCell']) ?_)
  intro w14 hBw14 hCw14
  have hzw14 := hCw14.size
  rw [setFrom_all _ _ (by kernel_rfl)] at hBw14
  refine wpF_run 2 [(24, (.int .i64 a4)), (23, (.int .i64 a3))] (wpF_end (then_code (wpC_seq (wpC_region (wpF_run 3 [(228, (vI j)), (227, (vI l)), (226, (vI n))] (wpF_step (op_call (some 229) (c_place l j _) ?_)))))))
  rintro _ w15 ⟨rfl, hEw15⟩
  have hzw15 := hEw15.size
  refine wpF_run 1 [(230, (.int .i64 s))] (wpF_step (op_call (some 231) (c_ChildW1 n l j s _ (by omega) (by omega) (by omega) (by omega) (by omega)) ?_))
  rintro _ w16 ⟨rfl, hEw16⟩
  have hzw16 := hEw16.size
  refine wpF_run 3 [(233, (vI 1)), (232, (vA [(vI 0), (vI 0)])), (225, (.tuple #[(vA [(vI 0), (vI 0)]), (vI 1)]))] (wpF_step (op_new (some 25) (Instr.alloc 45 true (.tuple #[])) (vP w16.heap.size 0) ([(vI 0), (vI 0)]) 45 ?_))
  intro w17 hBw17 hEw17
  have hzw17 := hEw17.size; have hlw17 := hBw17.lt
  refine wpF_step (op_store 45 w16.heap.size 0 45 (vA [(vI 0), (vI 0)]) ([(vI 0), (vI 0)]) ([(vI 0), (vI 0)]) hBw17 (by kernel_rfl) (by first | decide | (simp; done) | (simp; omega)) (by simp [Value.oneCell']) ?_)
  intro w18 hBw18 hCw18
  have hzw18 := hCw18.size
  rw [setFrom_all _ _ (by kernel_rfl)] at hBw18
  refine wpF_run 1 [(26, (vI 1))] (wpF_end (then_code (wpC_seq (wpC_seq ?_))))
  refine wpC_drawM (Ext w18.drew) 36 [(235, 256, 0), (236, 27606985387162255149739023449108101809804435888681546220650096895197184, 1), (237, 55213970774324510299478046898216203619608871777363092441300193790394368, 2), (238, 110427941548649020598956093796432407239217743554726184882600387597565952, 4), (239, 331283824645947061796868281389297221717653230664178554647801162742366208, 12), (240, 552139707743245102994780468982162036196088717773630924413001937903943680, 20), (241, 883423532389192164791648750371459257913741948437809479060803100650504192, 32), (242, 883423532389192164791648750371459257913741948437809479060803100646309888, 32), (243, 6183964726724345153541541252600214805396193639064666353425621704524169216, 224), (244, 8061239733051378503723794847139565728462895279495011496429828293397577728, 292), (245, 14245204459775723657265336099739780533859088918559677849855449997921746944, 644), (246, 28269553036454149273332760011886696253239742350009903329945699220690305024, 1024), (247, 84808659109362447819998280035660088759719227050029709989837097662045749248, 3072), (248, 141458193123819395387262756153229913673437929493604242834611096490990370816, 5124), (249, 226266852233181843207261036188890002433157156543633952824448194153036120064, 8196), (250, 452312848583266388373324160190187140051835877600158453279131187530910662656, 17408), (251, 904625697166532776746648320380374280103671755200316906558262375061821325568, 32768), (252, 2713877091499598330239944961141122840311015265600950719674787125185463975936, 98304), (253, 4523128485832663883733241601901871400518358776001584532791311875309106626560, 163840), (254, 7237005577332262213973186563042994240829374041602535252466099000494570602560, 262144), (255, 21711016731996786641919559689128982722488122124807605757398297001483711807488, 786432), (256, 37089653583827843846612581135595345484250541963212993168888757377534674337792, 1343488), (257, 58800670315824630488532140824724328206738664088020598926287054379018386145280, 2392064), (258, 115792089237316195423570985008687907853269984665640564039457584007913129640000, 4194304), (259, 347376267711948586270712955026063723559809953996921692118372752023739388919808, 12582912), (260, 579865071883747509894601573363819913546453595083403137103846182414627469524992, 21004288), (261, 927241339595696096165314528389883637106263549080324829222218934438366858444800, 37781504), (262, 1852673427797059126777135760139006525652319754650249024631321344126610141347840, 67108864), (263, 5558020283391177380331407280417019576956959263950747073893964032379830222716928, 201326592), (264, 9263367138985295633885678800695032628261598773251245123156606720633050371194880, 335544320), (265, 14821387422376473014217086081112052205218558037201992197050570753012880627466240, 536870912), (266, 14821387422376473014217086081112052205218558037201992197050570753012880593911808, 536870912), (267, 103749711956635311099519602567784365436529906260413945379353995271090164157382656, 3758096384), (268, 135245160229185316254730910490147476372619342089468178798086458121242535419445248, 4898947072), (269, 238995776811517793887027259706252222183429352021637324494347011654707761398153216, 8657076224), (270, 474285302141744302987723501243906050941273960862218950622524822358787240826503168, 17179901952)] (fun hT780 => ?_)
  have hEw19 : Ext w18 w18.drew := Ext.drew w18
  generalize w18.drew = w19 at hEw19 ⊢
  have hzw19 := hEw19.size
  refine anyM_run hT780 [(0, 234, vT), (1, 235, vF), (2, 236, vF), (3, 237, undef), (4, 238, undef), (5, 239, undef), (6, 240, undef), (7, 241, undef), (8, 242, undef), (9, 243, undef), (10, 244, undef), (11, 245, undef), (12, 246, undef), (13, 247, undef), (14, 248, vF), (15, 249, vF), (16, 250, vT), (17, 251, vF), (18, 252, vF), (19, 253, (.int .i64 s))] 20 1048575 (anyM_take hT780 20 2097151 (some 254) vT (yld_b (decide (s < ((0 : Nat) : Int))) (cmpDT (by omega))) (anyM_run hT780 [(21, 255, vT), (22, 256, vT), (23, 257, undef), (24, 258, undef), (25, 259, vT), (26, 260, vT), (27, 261, (vI 1)), (28, 262, vF), (29, 263, vF)] 9 1073741823 (anyM_take hT780 30 2147483647 (some 264) (vA [(vI 0), (vI 0)]) (yld_val (Instr.loadAt 45 (vP w16.heap.size 0)) (fun w' hC => rn_lda (vs := [(vI 0), (vI 0)]) (((hBw18.ext hEw19).ext hC).all))) (anyM_one 31 4294967295 (op_call (some 265) (c_place 0 0 _) ?_)))))
  rintro _ w20 ⟨rfl, hEw20⟩
  have hzw20 := hEw20.size
  refine ⟨.inr hEw20, ?_⟩
  refine anyM_take (hw := show Ext w19 w20 from hEw20) hT780 32 8589934591 (some 266) vF (yld_val (bo .neq 45 (.tmp 264) (.tmp 265) (vA [(vI 0), (vI 0)]) (vA [(vI 0), (vI 0)])) (fun w' hC => run_neqAgg (r := true) (T := 45) ((run_eq_flat (dd := 9998) (t := 45) [(vI 0), (vI 0)] [(vI 0), (vI 0)]).trans (congrArg (fun b => Result.ok b _) (show (eqvs [(vI 0), (vI 0)] [(vI 0), (vI 0)]) = true from by rfl))))) (anyM_run (hw := show Ext w19 w20 from hEw20) hT780 [(33, 267, vF), (34, 268, vF), (35, 269, vF)] 3 68719476735 (anyM_done (then_code (wpC_false (wpC_skip (then_code (wpC_seq (wpC_region (wpF_run 3 [(272, (vI j)), (271, vT), (270, vT)] ?_)))))))))
  refine wpF_step (op_b (some 273) (decide (((j : Nat) : Int) ≥ ((0 : Nat) : Int))) true (cmpDT (by omega)) ?_)
  refine wpF_run 4 [(277, (vI n)), (276, (vI j)), (275, vT), (274, vT)] (wpF_step (op_b (some 278) (decide (((j : Nat) : Int) < ((n : Nat) : Int))) true (cmpDT (by omega)) ?_))
  refine wpF_run 2 [(27, vT), (279, vT)] (wpF_end (then_code (wpC_seq (wpC_region (wpF_run 2 [(282, (vI j)), (281, (vI n))] (wpF_step (op_call (some 283) (c_Path n j _ (by omega) (by omega) (by omega)) ?_)))))))
  rintro _ w21 ⟨a5, rfl, hFz17_0, hEw21⟩
  have hzw21 := hEw21.size
  have hlea5 := hFz17_0.le
  refine wpF_run 5 [(16, (vI 0)), (28, (.slice a5 (hgt n + 1) (hgt n + 1))), (285, (vI 0)), (284, (.slice a5 (hgt n + 1) (hgt n + 1))), (280, (.tuple #[(.slice a5 (hgt n + 1) (hgt n + 1)), (vI 0)]))] (wpF_end (then_code (wpC_seq (wpC_region (wpF_run 2 [(288, (vI j)), (287, (vI n))] (wpF_step (op_call (some 289) (c_Group n j _ (by omega) (by omega) (by omega)) ?_)))))))
  rintro _ w22 ⟨rfl, hEw22⟩
  have hzw22 := hEw22.size
  refine wpF_run 5 [(19, (vI 0)), (292, (vI 0)), (291, (vI (j % 4))), (290, (vA [(vI 0), (vI (j / 4))])), (286, (.tuple #[(vA [(vI 0), (vI (j / 4))]), (vI (j % 4)), (vI 0)]))] (wpF_end (then_code (wpC_seq (wpC_region (wpF_run 3 [(296, (.int .i64 s)), (295, (vI j)), (294, (vI n))] (wpF_step (op_call (some 297) (c_DataSlot n j s _ (by omega) (by omega) (by omega) (by omega) (by omega)) ?_)))))))
  rintro _ w23 ⟨rfl, hEw23⟩
  have hzw23 := hEw23.size
  refine wpF_run 5 [(21, (vI 1)), (20, (vI 0)), (299, (vI 1)), (298, (vI 0)), (293, (.tuple #[(vI 0), (vI 1)]))] (wpF_end (then_code (wpC_seq (wpC_seq (wpC_region (wpF_run 16 [(315, (.int .i64 s)), (314, vT), (313, vT), (312, vF), (311, (vI 1)), (310, vF), (309, vF), (308, vF), (307, vT), (306, vT), (305, (vI 0)), (304, vF), (303, vF), (302, vT), (301, vT), (300, (vI 0))] (wpF_step (op_b (some 316) (s == ((0 : Nat) : Int)) false (cmpEqF (by omega)) ?_))))))))
  refine wpF_run 2 [(318, (.int .i64 s)), (317, vF)] (wpF_step (op_b (some 319) (s == ((1 : Nat) : Int)) false (cmpEqF (by omega)) ?_))
  refine wpF_run 34 [(353, vF), (352, vF), (351, vF), (350, vF), (349, (vI 0)), (348, vF), (347, vF), (346, (vI 1)), (345, vT), (344, vT), (343, (vI 1)), (342, vF), (341, vF), (340, vF), (339, undef), (338, undef), (337, undef), (336, undef), (335, undef), (334, undef), (333, undef), (332, undef), (331, undef), (330, undef), (329, undef), (328, undef), (327, vF), (326, vF), (325, (vI 0)), (324, vF), (323, vF), (322, vF), (321, vF), (320, vF)] (wpF_end (then_code (wpC_false (wpC_skip (then_code (wpC_seq (wpC_region (wpF_run 2 [(356, (vI j)), (355, (vI n))] (wpF_step (op_call (some 357) (c_OfAny n j _ (by omega) (by omega) (by omega)) ?_))))))))))
  rintro _ w24 ⟨a6, a7, a8, a9, rfl, hEw24⟩
  have hzw24 := hEw24.size
  refine wpF_run 3 [(359, (vI 0)), (358, (vA [(.bool a6), (.int .i64 a7), (.int .i64 a8), (.int .i64 a9)])), (354, (.tuple #[(vA [(.bool a6), (.int .i64 a7), (.int .i64 a8), (.int .i64 a9)]), (vI 0)]))] (wpF_step (op_new (some 29) (Instr.alloc 31 true (.tuple #[])) (vP w24.heap.size 0) ([vF, (vI 0), (vI 0), (vI 0)]) 31 ?_))
  intro w25 hBw25 hEw25
  have hzw25 := hEw25.size; have hlw25 := hBw25.lt
  refine wpF_step (op_store 31 w24.heap.size 0 31 (vA [(.bool a6), (.int .i64 a7), (.int .i64 a8), (.int .i64 a9)]) ([vF, (vI 0), (vI 0), (vI 0)]) ([(.bool a6), (.int .i64 a7), (.int .i64 a8), (.int .i64 a9)]) hBw25 (by kernel_rfl) (by first | decide | (simp; done) | (simp; omega)) (by simp [Value.oneCell']) ?_)
  intro w26 hBw26 hCw26
  have hzw26 := hCw26.size
  rw [setFrom_all _ _ (by kernel_rfl)] at hBw26
  refine wpF_run 1 [(16, (vI 0))] (wpF_end (then_code (wpC_seq (wpC_region (wpF_run 3 [(362, (vI j)), (361, vT), (360, vT)] (wpF_step (op_b (some 363) (decide (((j : Nat) : Int) ≥ ((0 : Nat) : Int))) true (cmpDT (by omega)) ?_)))))))
  refine wpF_run 4 [(367, (vI n)), (366, (vI j)), (365, vT), (364, vT)] (wpF_step (op_call (some 368) (c_rSectors n _ (by omega) (by omega)) ?_))
  rintro _ _ ⟨rfl, rfl⟩
  refine wpF_step (op_b (some 369) (decide (((j : Nat) : Int) < ((bas n (hgt n + 1) : Nat) : Int))) true (cmpDT (by omega)) ?_)
  refine wpF_run 2 [(30, vT), (370, vT)] (wpF_end (then_code (wpC_seq (wpC_region (wpF_run 17 [(387, vT), (386, vT), (385, vT), (384, undef), (383, undef), (382, undef), (381, undef), (380, undef), (379, undef), (378, undef), (377, vT), (376, vT), (375, vT), (374, vT), (373, vT), (372, vT), (371, (vI 0))] (wpF_step (op_call (some 388) (c_lives12 _) ?_)))))))
  rintro _ w27 ⟨rfl, hEw27⟩
  have hzw27 := hEw27.size
  refine wpF_run 2 [(2, vT), (389, vT)] (wpF_end (then_code (wpC_ret (body_rets vT ?_))))
  have hX1 : Ext w w27 := ((Ext.own ((((((((Ext.own ((((Ext.own ((((((((((((hEw1.trans hEw2).trans hEw3).trans hEw4).trans hEw5).trans hEw6).trans hEw7).trans hEw8).trans hEw9).trans hEw10).trans hEw11).trans hEw12).trans hEw13) hCw14 (by omega)).trans hEw15).trans hEw16).trans hEw17) hCw18 (by omega)).trans hEw19).trans hEw20).trans hEw21).trans hEw22).trans hEw23).trans hEw24).trans hEw25) hCw26 (by omega)).trans hEw27)
  exact ⟨rfl, hX1⟩

theorem c_SE_is_gt (n : Nat) (l : Nat) (j : Nat) (s : Int)  (w : World) (hp0 : 1 ≤ n) (hp1 : n ≤ 4096) (hp2 : l ≤ hgt n) (hp3 : j < cnt n l) (hp4 : j < n) (hp5 : s > 3) :
    Calls Try.prog 8 #[(vA [(vI n), (vI l), (vI j), (.int .i64 s)])] w (Ret fun r w' => r = vT ∧ Ext w w') := by
  refine calls_of (n := 390) (σ := [(0, (vA [(vI n), (vI l), (vI j), (.int .i64 s)]))]) Try.func8 rfl ?_
  have h5 := hgt_le n
  have hbg := bas_ge n (hgt n + 1)
  have hbs := bas_small (l := hgt n + 1) hp1 (by omega)
  have hcn := cnt_n n l
  refine wpC_seq (wpC_region (wpF_step (op_new (some 1) (Instr.box 58 (vA [(vI n), (vI l), (vI j), (.int .i64 s)])) (vP w.heap.size 0) ([(vI n), (vI l), (vI j), (.int .i64 s)]) 58 ?_)))
  intro w1 hBw1 hEw1
  have hzw1 := hEw1.size; have hlw1 := hBw1.lt
  refine wpF_run 1 [(2, vF)] (wpF_end (then_code (wpC_seq (wpC_drawM (Ext w1.drew) 12 [(32, 2, 0), (33, 2147483648, 1), (34, 2, 0), (35, 8589934592, 4), (36, 2, 0), (37, 34359738368, 16), (38, 2, 0), (39, 137438953472, 64), (4, 4294967296, 3), (5, 17179869184, 271), (6, 68719476736, 831), (7, 274877906944, 2047)] (fun hT714 => ?_)))))
  have hEw2 : Ext w1 w1.drew := Ext.drew w1
  generalize w1.drew = w2 at hEw2 ⊢
  have hzw2 := hEw2.size
  refine anyM_take hT714 0 1 (some 31) (vP w.heap.size 0) (yld_val (Instr.indexAt 58 (vP w.heap.size 0) (vI 0)) (fun w' hC => rn_ixa (E := 3) (sz := 1) (m := 4) (by omega))) (anyM_take hT714 1 3 (some 32) (vI n) (yld_val (Instr.loadAt 3 (vP w.heap.size 0)) (fun w' hC => rn_ld (((hBw1.ext hEw2).ext hC).cell rfl))) (anyM_take hT714 2 7 (some 33) (vP w.heap.size 1) (yld_val (Instr.indexAt 58 (vP w.heap.size 0) (vI 1)) (fun w' hC => rn_ixa (E := 3) (sz := 1) (m := 4) (by omega))) (anyM_take hT714 3 15 (some 34) (vI l) (yld_val (Instr.loadAt 3 (vP w.heap.size 1)) (fun w' hC => rn_ld (((hBw1.ext hEw2).ext hC).cell rfl))) (anyM_take hT714 4 31 (some 35) (vP w.heap.size 2) (yld_val (Instr.indexAt 58 (vP w.heap.size 0) (vI 2)) (fun w' hC => rn_ixa (E := 3) (sz := 1) (m := 4) (by omega))) (anyM_take hT714 5 63 (some 36) (vI j) (yld_val (Instr.loadAt 3 (vP w.heap.size 2)) (fun w' hC => rn_ld (((hBw1.ext hEw2).ext hC).cell rfl))) (anyM_take hT714 6 127 (some 37) (vP w.heap.size 3) (yld_val (Instr.indexAt 58 (vP w.heap.size 0) (vI 3)) (fun w' hC => rn_ixa (E := 3) (sz := 1) (m := 4) (by omega))) (anyM_take hT714 7 255 (some 38) (.int .i64 s) (yld_val (Instr.loadAt 3 (vP w.heap.size 3)) (fun w' hC => rn_ld (((hBw1.ext hEw2).ext hC).cell rfl))) (anyM_run hT714 [(8, 3, (vI n)), (9, 4, (vI l)), (10, 5, (vI j)), (11, 6, (.int .i64 s))] 4 4095 (anyM_done ?_)))))))))
  refine then_code (wpC_seq (wpC_region (wpF_run 1 [(39, (vI n))] (wpF_step (op_b (some 40) (decide (((n : Nat) : Int) ≥ ((1 : Nat) : Int))) true (cmpDT (by omega)) ?_)))))
  refine wpF_run 2 [(42, (vI n)), (41, vT)] (wpF_step (op_b (some 43) (decide (((n : Nat) : Int) ≤ ((4096 : Nat) : Int))) true (cmpDT (by omega)) ?_))
  refine wpF_run 2 [(7, vT), (44, vT)] (wpF_end (then_code (wpC_seq (wpC_region (wpF_run 5 [(49, (vI j)), (48, (vI l)), (47, (vI n)), (46, vT), (45, vT)] (wpF_step (op_call (some 50) (c_rIs n l j _ (by omega) (by omega) (by omega) (by omega)) ?_)))))))
  rintro _ _ ⟨rfl, rfl⟩
  refine wpF_run 2 [(8, vT), (51, vT)] (wpF_end (then_code (wpC_seq (wpC_region (wpF_run 1 [(53, (vI n))] (wpF_step (op_call (some 54) (c_Height n _ (by omega) (by omega)) ?_)))))))
  rintro _ w3 ⟨rfl, hEw3⟩
  have hzw3 := hEw3.size
  refine wpF_run 5 [(10, (vI 0)), (9, (vI (hgt n))), (56, (vI 0)), (55, (vI (hgt n))), (52, (.tuple #[(vI (hgt n)), (vI 0)]))] (wpF_end (then_code (wpC_seq (wpC_region (wpF_run 1 [(58, (vI n))] (wpF_step (op_call (some 59) (c_Total n _ (by omega) (by omega)) ?_)))))))
  rintro _ w4 ⟨rfl, hEw4⟩
  have hzw4 := hEw4.size
  refine wpF_run 5 [(12, (vI 0)), (11, (vI (tot n))), (61, (vI 0)), (60, (vI (tot n))), (57, (.tuple #[(vI (tot n)), (vI 0)]))] (wpF_end (then_code (wpC_seq (wpC_region (wpF_run 1 [(63, (vI n))] (wpF_step (op_call (some 64) (c_Sectors n _ (by omega) (by omega)) ?_)))))))
  rintro _ w5 ⟨rfl, hEw5⟩
  have hzw5 := hEw5.size
  refine wpF_run 5 [(14, (vI 0)), (13, (vI (bas n (hgt n + 1)))), (66, (vI 0)), (65, (vI (bas n (hgt n + 1)))), (62, (.tuple #[(vI (bas n (hgt n + 1))), (vI 0)]))] (wpF_end (then_code (wpC_seq (wpC_seq (wpC_region (wpF_run 18 [(84, (vI n)), (83, vF), (82, vF), (81, vF), (80, vT), (79, vT), (78, (vI 0)), (77, vF), (76, vF), (75, vF), (74, vT), (73, vT), (72, (vI 0)), (71, vF), (70, vF), (69, vT), (68, vT), (67, (vI 0))] (wpF_step (op_call (some 85) (c_Check n _ (by omega) (by omega)) ?_))))))))
  rintro _ _ ⟨rfl, rfl⟩
  refine wpF_run 21 [(106, vF), (105, vF), (104, undef), (103, undef), (102, vF), (101, vF), (100, vT), (99, vF), (98, vF), (97, vF), (96, (vI 0)), (95, (vI 0)), (94, vF), (93, vF), (92, vF), (91, (vI 0)), (90, (vI 0)), (89, vF), (88, vF), (87, vF), (86, (vI 0))] (wpF_end (then_code (wpC_false (wpC_skip (then_code (wpC_seq (wpC_region (wpF_run 2 [(109, (vI l)), (108, (vI n))] (wpF_step (op_call (some 110) (c_Count n l _ (by omega) (by omega) (by omega)) ?_))))))))))
  rintro _ w6 ⟨rfl, hEw6⟩
  have hzw6 := hEw6.size
  refine wpF_run 5 [(16, (vI 0)), (15, (vI (cnt n l))), (112, (vI 0)), (111, (vI (cnt n l))), (107, (.tuple #[(vI (cnt n l)), (vI 0)]))] (wpF_end (then_code (wpC_seq (wpC_seq (wpC_region (wpF_run 6 [(118, (vI l)), (117, (vI n)), (116, vT), (115, vT), (114, vT), (113, (vI 0))] (wpF_step (op_call (some 119) (c_rIs n l 0 _ (by omega) (by omega) (by omega) (cnt_pos hp0 l)) ?_))))))))
  rintro _ _ ⟨rfl, rfl⟩
  refine wpF_run 14 [(133, vF), (132, vF), (131, undef), (130, undef), (129, undef), (128, undef), (127, undef), (126, undef), (125, vF), (124, vF), (123, (vI 0)), (122, vF), (121, vF), (120, vT)] (wpF_end (then_code (wpC_false (wpC_skip (then_code (wpC_seq (wpC_region (wpF_run 3 [(137, (vI j)), (136, (vI l)), (135, (vI n))] (wpF_step (op_call (some 138) (c_Parts n l j _ (by omega) (by omega) (by omega) (by omega)) ?_))))))))))
  rintro _ w7 ⟨rfl, hEw7⟩
  have hzw7 := hEw7.size
  refine wpF_run 5 [(16, (vI 0)), (15, (vI (prt n l j))), (140, (vI 0)), (139, (vI (prt n l j))), (134, (.tuple #[(vI (prt n l j)), (vI 0)]))] (wpF_end (then_code (wpC_seq (wpC_region (wpF_run 3 [(144, (vI j)), (143, (vI l)), (142, (vI n))] (wpF_step (op_call (some 145) (c_place l j _) ?_)))))))
  rintro _ w8 ⟨rfl, hEw8⟩
  have hzw8 := hEw8.size
  refine wpF_step (op_call (some 146) (c_Blocks n l j _ (by omega) (by omega) (by omega) (by omega)) ?_)
  rintro _ w9 ⟨rfl, hEw9⟩
  have hzw9 := hEw9.size
  refine wpF_run 7 [(19, (vI 0)), (18, (vI (min n ((j + 1) * wid l)))), (17, (vI (j * wid l))), (149, (vI 0)), (148, (vI (min n ((j + 1) * wid l)))), (147, (vI (j * wid l))), (141, (.tuple #[(vI (j * wid l)), (vI (min n ((j + 1) * wid l))), (vI 0)]))] (wpF_end (then_code (wpC_seq (wpC_region (wpF_run 4 [(154, (.int .i64 s)), (153, (vI j)), (152, (vI l)), (151, (vI n))] (wpF_step (op_call (some 155) (c_NodeSlot n l j s _ (by omega) (by omega) (by omega) (by omega) (by omega) (by omega)) ?_)))))))
  rintro _ w10 ⟨rfl, hEw10⟩
  have hzw10 := hEw10.size
  refine wpF_run 5 [(21, (vI 1)), (20, (vI 0)), (157, (vI 1)), (156, (vI 0)), (150, (.tuple #[(vI 0), (vI 1)]))] (wpF_end (then_code (wpC_seq (wpC_seq (wpC_region (wpF_run 16 [(173, (.int .i64 s)), (172, vT), (171, vT), (170, vF), (169, (vI 1)), (168, vF), (167, vF), (166, vF), (165, vT), (164, vT), (163, (vI 0)), (162, vF), (161, vF), (160, vT), (159, vT), (158, (vI 0))] (wpF_step (op_b (some 174) (s == ((0 : Nat) : Int)) false (cmpEqF (by omega)) ?_))))))))
  refine wpF_run 2 [(176, (.int .i64 s)), (175, vF)] (wpF_step (op_b (some 177) (s == ((1 : Nat) : Int)) false (cmpEqF (by omega)) ?_))
  refine wpF_run 4 [(181, vF), (180, vF), (179, vF), (178, vF)] (wpF_end (then_code (wpC_false (wpC_skip (then_code (wpC_seq (wpC_seq (wpC_region (wpF_run 34 [(215, vF), (214, vF), (213, vF), (212, vF), (211, (vI 0)), (210, vF), (209, vF), (208, (vI 1)), (207, vT), (206, vT), (205, (vI 1)), (204, vF), (203, vF), (202, undef), (201, undef), (200, undef), (199, undef), (198, undef), (197, undef), (196, undef), (195, undef), (194, undef), (193, undef), (192, undef), (191, undef), (190, undef), (189, undef), (188, undef), (187, undef), (186, undef), (185, undef), (184, vF), (183, vF), (182, (vI 0))] ?_)))))))))
  refine wpF_end (then_code (wpC_false (wpC_skip (then_code (wpC_seq (wpC_region (wpF_run 3 [(219, (vI j)), (218, (vI l)), (217, (vI n))] (wpF_step (op_call (some 220) (c_place l j _) ?_)))))))))
  rintro _ w11 ⟨rfl, hEw11⟩
  have hzw11 := hEw11.size
  refine wpF_step (op_call (some 221) (c_ParentAny n l j _ (by omega) (by omega) (by omega) (by omega)) ?_)
  rintro _ w12 ⟨a1, a2, a3, a4, rfl, hEw12⟩
  have hzw12 := hEw12.size
  refine wpF_run 4 [(224, (.int .i64 a4)), (223, (.int .i64 a3)), (222, (vA [(.int .i64 a1), (.int .i64 a2)])), (216, (.tuple #[(vA [(.int .i64 a1), (.int .i64 a2)]), (.int .i64 a3), (.int .i64 a4)]))] (wpF_step (op_new (some 22) (Instr.alloc 45 true (.tuple #[])) (vP w12.heap.size 0) ([(vI 0), (vI 0)]) 45 ?_))
  intro w13 hBw13 hEw13
  have hzw13 := hEw13.size; have hlw13 := hBw13.lt
  refine wpF_step (op_store 45 w12.heap.size 0 45 (vA [(.int .i64 a1), (.int .i64 a2)]) ([(vI 0), (vI 0)]) ([(.int .i64 a1), (.int .i64 a2)]) hBw13 (by kernel_rfl) (by first | decide | (simp; done) | (simp; omega)) (by simp [Value.oneCell']) ?_)
  intro w14 hBw14 hCw14
  have hzw14 := hCw14.size
  rw [setFrom_all _ _ (by kernel_rfl)] at hBw14
  refine wpF_run 2 [(24, (.int .i64 a4)), (23, (.int .i64 a3))] (wpF_end (then_code (wpC_seq (wpC_region (wpF_run 3 [(228, (vI j)), (227, (vI l)), (226, (vI n))] (wpF_step (op_call (some 229) (c_place l j _) ?_)))))))
  rintro _ w15 ⟨rfl, hEw15⟩
  have hzw15 := hEw15.size
  refine wpF_run 1 [(230, (.int .i64 s))] (wpF_step (op_call (some 231) (c_ChildW2 n l j s _ (by omega) (by omega) (by omega) (by omega) (by omega)) ?_))
  rintro _ w16 ⟨rfl, hEw16⟩
  have hzw16 := hEw16.size
  refine wpF_run 3 [(233, (vI 1)), (232, (vA [(vI 0), (vI 0)])), (225, (.tuple #[(vA [(vI 0), (vI 0)]), (vI 1)]))] (wpF_step (op_new (some 25) (Instr.alloc 45 true (.tuple #[])) (vP w16.heap.size 0) ([(vI 0), (vI 0)]) 45 ?_))
  intro w17 hBw17 hEw17
  have hzw17 := hEw17.size; have hlw17 := hBw17.lt
  refine wpF_step (op_store 45 w16.heap.size 0 45 (vA [(vI 0), (vI 0)]) ([(vI 0), (vI 0)]) ([(vI 0), (vI 0)]) hBw17 (by kernel_rfl) (by first | decide | (simp; done) | (simp; omega)) (by simp [Value.oneCell']) ?_)
  intro w18 hBw18 hCw18
  have hzw18 := hCw18.size
  rw [setFrom_all _ _ (by kernel_rfl)] at hBw18
  refine wpF_run 1 [(26, (vI 1))] (wpF_end (then_code (wpC_seq (wpC_seq ?_))))
  refine wpC_drawM (Ext w18.drew) 36 [(235, 256, 0), (236, 27606985387162255149739023449108101809804435888681546220650096895197184, 1), (237, 55213970774324510299478046898216203619608871777363092441300193790394368, 2), (238, 110427941548649020598956093796432407239217743554726184882600387597565952, 4), (239, 331283824645947061796868281389297221717653230664178554647801162742366208, 12), (240, 552139707743245102994780468982162036196088717773630924413001937903943680, 20), (241, 883423532389192164791648750371459257913741948437809479060803100650504192, 32), (242, 883423532389192164791648750371459257913741948437809479060803100646309888, 32), (243, 6183964726724345153541541252600214805396193639064666353425621704524169216, 224), (244, 8061239733051378503723794847139565728462895279495011496429828293397577728, 292), (245, 14245204459775723657265336099739780533859088918559677849855449997921746944, 644), (246, 28269553036454149273332760011886696253239742350009903329945699220690305024, 1024), (247, 84808659109362447819998280035660088759719227050029709989837097662045749248, 3072), (248, 141458193123819395387262756153229913673437929493604242834611096490990370816, 5124), (249, 226266852233181843207261036188890002433157156543633952824448194153036120064, 8196), (250, 452312848583266388373324160190187140051835877600158453279131187530910662656, 17408), (251, 904625697166532776746648320380374280103671755200316906558262375061821325568, 32768), (252, 2713877091499598330239944961141122840311015265600950719674787125185463975936, 98304), (253, 4523128485832663883733241601901871400518358776001584532791311875309106626560, 163840), (254, 7237005577332262213973186563042994240829374041602535252466099000494570602560, 262144), (255, 21711016731996786641919559689128982722488122124807605757398297001483711807488, 786432), (256, 37089653583827843846612581135595345484250541963212993168888757377534674337792, 1343488), (257, 58800670315824630488532140824724328206738664088020598926287054379018386145280, 2392064), (258, 115792089237316195423570985008687907853269984665640564039457584007913129640000, 4194304), (259, 347376267711948586270712955026063723559809953996921692118372752023739388919808, 12582912), (260, 579865071883747509894601573363819913546453595083403137103846182414627469524992, 21004288), (261, 927241339595696096165314528389883637106263549080324829222218934438366858444800, 37781504), (262, 1852673427797059126777135760139006525652319754650249024631321344126610141347840, 67108864), (263, 5558020283391177380331407280417019576956959263950747073893964032379830222716928, 201326592), (264, 9263367138985295633885678800695032628261598773251245123156606720633050371194880, 335544320), (265, 14821387422376473014217086081112052205218558037201992197050570753012880627466240, 536870912), (266, 14821387422376473014217086081112052205218558037201992197050570753012880593911808, 536870912), (267, 103749711956635311099519602567784365436529906260413945379353995271090164157382656, 3758096384), (268, 135245160229185316254730910490147476372619342089468178798086458121242535419445248, 4898947072), (269, 238995776811517793887027259706252222183429352021637324494347011654707761398153216, 8657076224), (270, 474285302141744302987723501243906050941273960862218950622524822358787240826503168, 17179901952)] (fun hT901 => ?_)
  have hEw19 : Ext w18 w18.drew := Ext.drew w18
  generalize w18.drew = w19 at hEw19 ⊢
  have hzw19 := hEw19.size
  refine anyM_run hT901 [(0, 234, vT), (1, 235, vF), (2, 236, vF), (3, 237, undef), (4, 238, undef), (5, 239, undef), (6, 240, undef), (7, 241, undef), (8, 242, undef), (9, 243, undef), (10, 244, undef), (11, 245, undef), (12, 246, undef), (13, 247, undef), (14, 248, vF), (15, 249, vF), (16, 250, vT), (17, 251, vF), (18, 252, vF), (19, 253, (.int .i64 s))] 20 1048575 (anyM_take hT901 20 2097151 (some 254) vF (yld_b (decide (s < ((0 : Nat) : Int))) (cmpDF (by omega))) (anyM_run hT901 [(21, 255, vF), (22, 256, vF), (23, 257, (.int .i64 s))] 3 16777215 (anyM_take hT901 24 33554431 (some 258) vT (yld_b (decide (s > ((3 : Nat) : Int))) (cmpDT (by omega))) (anyM_run hT901 [(25, 259, vT), (26, 260, vT), (27, 261, (vI 1)), (28, 262, vF), (29, 263, vF)] 5 1073741823 (anyM_take hT901 30 2147483647 (some 264) (vA [(vI 0), (vI 0)]) (yld_val (Instr.loadAt 45 (vP w16.heap.size 0)) (fun w' hC => rn_lda (vs := [(vI 0), (vI 0)]) (((hBw18.ext hEw19).ext hC).all))) (anyM_one 31 4294967295 (op_call (some 265) (c_place 0 0 _) ?_)))))))
  rintro _ w20 ⟨rfl, hEw20⟩
  have hzw20 := hEw20.size
  refine ⟨.inr hEw20, ?_⟩
  refine anyM_take (hw := show Ext w19 w20 from hEw20) hT901 32 8589934591 (some 266) vF (yld_val (bo .neq 45 (.tmp 264) (.tmp 265) (vA [(vI 0), (vI 0)]) (vA [(vI 0), (vI 0)])) (fun w' hC => run_neqAgg (r := true) (T := 45) ((run_eq_flat (dd := 9998) (t := 45) [(vI 0), (vI 0)] [(vI 0), (vI 0)]).trans (congrArg (fun b => Result.ok b _) (show (eqvs [(vI 0), (vI 0)] [(vI 0), (vI 0)]) = true from by rfl))))) (anyM_run (hw := show Ext w19 w20 from hEw20) hT901 [(33, 267, vF), (34, 268, vF), (35, 269, vF)] 3 68719476735 (anyM_done (then_code (wpC_false (wpC_skip (then_code (wpC_seq (wpC_region (wpF_run 3 [(272, (vI j)), (271, vT), (270, vT)] ?_)))))))))
  refine wpF_step (op_b (some 273) (decide (((j : Nat) : Int) ≥ ((0 : Nat) : Int))) true (cmpDT (by omega)) ?_)
  refine wpF_run 4 [(277, (vI n)), (276, (vI j)), (275, vT), (274, vT)] (wpF_step (op_b (some 278) (decide (((j : Nat) : Int) < ((n : Nat) : Int))) true (cmpDT (by omega)) ?_))
  refine wpF_run 2 [(27, vT), (279, vT)] (wpF_end (then_code (wpC_seq (wpC_region (wpF_run 2 [(282, (vI j)), (281, (vI n))] (wpF_step (op_call (some 283) (c_Path n j _ (by omega) (by omega) (by omega)) ?_)))))))
  rintro _ w21 ⟨a5, rfl, hFz17_0, hEw21⟩
  have hzw21 := hEw21.size
  have hlea5 := hFz17_0.le
  refine wpF_run 5 [(16, (vI 0)), (28, (.slice a5 (hgt n + 1) (hgt n + 1))), (285, (vI 0)), (284, (.slice a5 (hgt n + 1) (hgt n + 1))), (280, (.tuple #[(.slice a5 (hgt n + 1) (hgt n + 1)), (vI 0)]))] (wpF_end (then_code (wpC_seq (wpC_region (wpF_run 2 [(288, (vI j)), (287, (vI n))] (wpF_step (op_call (some 289) (c_Group n j _ (by omega) (by omega) (by omega)) ?_)))))))
  rintro _ w22 ⟨rfl, hEw22⟩
  have hzw22 := hEw22.size
  refine wpF_run 5 [(19, (vI 0)), (292, (vI 0)), (291, (vI (j % 4))), (290, (vA [(vI 0), (vI (j / 4))])), (286, (.tuple #[(vA [(vI 0), (vI (j / 4))]), (vI (j % 4)), (vI 0)]))] (wpF_end (then_code (wpC_seq (wpC_region (wpF_run 3 [(296, (.int .i64 s)), (295, (vI j)), (294, (vI n))] (wpF_step (op_call (some 297) (c_DataSlot n j s _ (by omega) (by omega) (by omega) (by omega) (by omega)) ?_)))))))
  rintro _ w23 ⟨rfl, hEw23⟩
  have hzw23 := hEw23.size
  refine wpF_run 5 [(21, (vI 1)), (20, (vI 0)), (299, (vI 1)), (298, (vI 0)), (293, (.tuple #[(vI 0), (vI 1)]))] (wpF_end (then_code (wpC_seq (wpC_seq (wpC_region (wpF_run 16 [(315, (.int .i64 s)), (314, vT), (313, vT), (312, vF), (311, (vI 1)), (310, vF), (309, vF), (308, vF), (307, vT), (306, vT), (305, (vI 0)), (304, vF), (303, vF), (302, vT), (301, vT), (300, (vI 0))] (wpF_step (op_b (some 316) (s == ((0 : Nat) : Int)) false (cmpEqF (by omega)) ?_))))))))
  refine wpF_run 2 [(318, (.int .i64 s)), (317, vF)] (wpF_step (op_b (some 319) (s == ((1 : Nat) : Int)) false (cmpEqF (by omega)) ?_))
  refine wpF_run 34 [(353, vF), (352, vF), (351, vF), (350, vF), (349, (vI 0)), (348, vF), (347, vF), (346, (vI 1)), (345, vT), (344, vT), (343, (vI 1)), (342, vF), (341, vF), (340, vF), (339, undef), (338, undef), (337, undef), (336, undef), (335, undef), (334, undef), (333, undef), (332, undef), (331, undef), (330, undef), (329, undef), (328, undef), (327, vF), (326, vF), (325, (vI 0)), (324, vF), (323, vF), (322, vF), (321, vF), (320, vF)] (wpF_end (then_code (wpC_false (wpC_skip (then_code (wpC_seq (wpC_region (wpF_run 2 [(356, (vI j)), (355, (vI n))] (wpF_step (op_call (some 357) (c_OfAny n j _ (by omega) (by omega) (by omega)) ?_))))))))))
  rintro _ w24 ⟨a6, a7, a8, a9, rfl, hEw24⟩
  have hzw24 := hEw24.size
  refine wpF_run 3 [(359, (vI 0)), (358, (vA [(.bool a6), (.int .i64 a7), (.int .i64 a8), (.int .i64 a9)])), (354, (.tuple #[(vA [(.bool a6), (.int .i64 a7), (.int .i64 a8), (.int .i64 a9)]), (vI 0)]))] (wpF_step (op_new (some 29) (Instr.alloc 31 true (.tuple #[])) (vP w24.heap.size 0) ([vF, (vI 0), (vI 0), (vI 0)]) 31 ?_))
  intro w25 hBw25 hEw25
  have hzw25 := hEw25.size; have hlw25 := hBw25.lt
  refine wpF_step (op_store 31 w24.heap.size 0 31 (vA [(.bool a6), (.int .i64 a7), (.int .i64 a8), (.int .i64 a9)]) ([vF, (vI 0), (vI 0), (vI 0)]) ([(.bool a6), (.int .i64 a7), (.int .i64 a8), (.int .i64 a9)]) hBw25 (by kernel_rfl) (by first | decide | (simp; done) | (simp; omega)) (by simp [Value.oneCell']) ?_)
  intro w26 hBw26 hCw26
  have hzw26 := hCw26.size
  rw [setFrom_all _ _ (by kernel_rfl)] at hBw26
  refine wpF_run 1 [(16, (vI 0))] (wpF_end (then_code (wpC_seq (wpC_region (wpF_run 3 [(362, (vI j)), (361, vT), (360, vT)] (wpF_step (op_b (some 363) (decide (((j : Nat) : Int) ≥ ((0 : Nat) : Int))) true (cmpDT (by omega)) ?_)))))))
  refine wpF_run 4 [(367, (vI n)), (366, (vI j)), (365, vT), (364, vT)] (wpF_step (op_call (some 368) (c_rSectors n _ (by omega) (by omega)) ?_))
  rintro _ _ ⟨rfl, rfl⟩
  refine wpF_step (op_b (some 369) (decide (((j : Nat) : Int) < ((bas n (hgt n + 1) : Nat) : Int))) true (cmpDT (by omega)) ?_)
  refine wpF_run 2 [(30, vT), (370, vT)] (wpF_end (then_code (wpC_seq (wpC_region (wpF_run 17 [(387, vT), (386, vT), (385, vT), (384, undef), (383, undef), (382, undef), (381, undef), (380, undef), (379, undef), (378, undef), (377, vT), (376, vT), (375, vT), (374, vT), (373, vT), (372, vT), (371, (vI 0))] (wpF_step (op_call (some 388) (c_lives12 _) ?_)))))))
  rintro _ w27 ⟨rfl, hEw27⟩
  have hzw27 := hEw27.size
  refine wpF_run 2 [(2, vT), (389, vT)] (wpF_end (then_code (wpC_ret (body_rets vT ?_))))
  have hX1 : Ext w w27 := ((Ext.own ((((((((Ext.own ((((Ext.own ((((((((((((hEw1.trans hEw2).trans hEw3).trans hEw4).trans hEw5).trans hEw6).trans hEw7).trans hEw8).trans hEw9).trans hEw10).trans hEw11).trans hEw12).trans hEw13) hCw14 (by omega)).trans hEw15).trans hEw16).trans hEw17) hCw18 (by omega)).trans hEw19).trans hEw20).trans hEw21).trans hEw22).trans hEw23).trans hEw24).trans hEw25) hCw26 (by omega)).trans hEw27)
  exact ⟨rfl, hX1⟩

end Go.Proofs.Ytpcbhalagllhnaa
