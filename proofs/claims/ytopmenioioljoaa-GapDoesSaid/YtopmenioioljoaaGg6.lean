/-
  THE GAP LAWS: texts GapSegS0, GapSegS1, GapSegS2, GapSegS4, GapSegC in one.
-/
import Derived.Test.YtopmenioioljoaaGg5
import Derived.BigQuiet
/-
  THE LAW GapDoes, ITS PIECES: Insert.
-/
namespace Go.Proofs.Ytopmenioioljoaa.GapW
open Go.RowKit Go.Proofs.Ytopmenioioljoaa.Base Go.Proofs.YtopmenioioljoaaW.PrintWords Go.Proofs.YtopmenioioljoaaW.PrintLast Go.Proofs.YtopmenioioljoaaW.PrintMore Go.Proofs.Ytopmenioioljoaa.PGapDoes Go.Proofs.Ytopmenioioljoaa.CountW

set_option linter.unusedVariables false in
set_option maxRecDepth 100000 in
set_option maxHeartbeats 8000000 in
theorem segS0_ok {Q : Exit → Act → World → Prop} {v1 v2 v3 v4 v6 v8 v11 v12 v13 v14 v15 v16 v17 v18 v19 v20 v21 v22 v23 v24 v25 v26 v27 v28 v29 v30 v31 v32 v33 v34 v35 v36 v37 v38 v39 v40 v41 v42 v43 v44 v45 v46 v47 v48 v49 v50 v51 v52 v53 v54 v55 v56 v57 v58 v59 v60 v61 v62 v63 v64 v65 v66 v67 v68 v69 v70 v71 v72 v73 v74 v75 v76 v77 v78 v79 v80 v81 v82 v83 v84 v85 v86 v87 v88 v89 v90 v91 v92 v93 v94 v95 v96 v97 v98 v99 v100 v101 v102 v103 v104 v105 v106 v107 v108 v109 v110 v111 v112 v113 v114 v115 v116 v117 v118 v119 v120 v121 v122 v123 v124 v125 v126 v127 v128 v129 v130 v131 v132 v133 v134 v135 v136 v137 v138 v139 v140 v141 v142 v143 v144 v145 v146 v147 v148 v149 v150 v151 v152 v153 v154 v155 v156 v157 v158 v159 v160 v161 v162 v163 v164 v165 v166 v167 v168 v169 v170 v171 v172 v173 v174 v175 v176 v177 v178 v179 v180 v181 v182 v183 v184 v185 v186 v187 v188 v189 v190 v191 v192 v193 v194 v195 v196 v197 v198 v199 v200 v201 v202 v203 v204 v205 v206 v207 v208 v209 v210 v211 v212 v213 v214 v215 v216 v217 v218 v219 v220 v221 v222 v223 v224 v225 v226 v227 v228 v229 v230 v231 v232 v233 v234 v235 v236 v237 v238 v239 v240 v241 v242 v243 : Value} {w wx : World} {G X Y : Nat} {most qn : Int} {qA A0 : Option Addr} {qc c0 ln xl : Nat} {ql pre gap post : List S82} {vB : Value} (h : Rnd w wx G X Y most 0 qn ql pre gap post vB qA A0 qc c0 ln xl) (hf : fitE ql (xl : Int) most = 0)
    (hQ : ∀ (u11 u12 u13 u14 u88 u89 u90 u91 u92 u93 u94 u95 u96 u97 u98 u99 u100 u101 u102 u103 u104 u105 u106 u107 u108 u109 u110 u111 u112 u113 u114 u115 u116 u117 u118 u119 u120 u121 u122 u123 u124 u125 u126 u127 u128 u129 u130 u131 u132 u133 u134 u135 u136 u137 u138 u139 u140 u141 u142 u143 u144 u145 u146 u147 u148 u149 u150 u151 u152 u153 u154 u155 u156 u157 u158 u159 u160 u161 u162 u163 u164 u165 u166 u167 u168 u169 u170 u171 u172 u173 u174 u175 u176 u177 u178 u179 u180 u181 u182 u183 u184 u185 u186 u187 u188 u189 u190 u191 u192 u193 u194 u195 u196 u197 u198 u199 u200 u201 u202 u203 u204 u205 u206 u207 u208 u209 u210 u211 u212 u213 u214 u215 : Value) (wy : World), GN w wy G X most (xl + 60) → Q .normal { tmps := #[.int .i64 most, v1, v2, v3, v4, .pointer (some ⟨G, 0, none⟩), v6, .pointer (some ⟨X, 0, none⟩), v8, .pointer (some ⟨Y, 0, none⟩), .int .i64 0, u11, u12, u13, u14, v15, v16, v17, v18, v19, v20, v21, v22, v23, v24, v25, v26, v27, v28, v29, v30, v31, v32, v33, v34, v35, v36, v37, v38, v39, v40, v41, v42, v43, v44, v45, v46, v47, v48, v49, v50, v51, v52, v53, v54, v55, v56, v57, v58, v59, v60, v61, v62, v63, v64, v65, v66, v67, v68, v69, v70, v71, v72, v73, v74, v75, v76, v77, v78, v79, v80, v81, v82, v83, v84, v85, v86, v87, u88, u89, u90, u91, u92, u93, u94, u95, u96, u97, u98, u99, u100, u101, u102, u103, u104, u105, u106, u107, u108, u109, u110, u111, u112, u113, u114, u115, u116, u117, u118, u119, u120, u121, u122, u123, u124, u125, u126, u127, u128, u129, u130, u131, u132, u133, u134, u135, u136, u137, u138, u139, u140, u141, u142, u143, u144, u145, u146, u147, u148, u149, u150, u151, u152, u153, u154, u155, u156, u157, u158, u159, u160, u161, u162, u163, u164, u165, u166, u167, u168, u169, u170, u171, u172, u173, u174, u175, u176, u177, u178, u179, u180, u181, u182, u183, u184, u185, u186, u187, u188, u189, u190, u191, u192, u193, u194, u195, u196, u197, u198, u199, u200, u201, u202, u203, u204, u205, u206, u207, u208, u209, u210, u211, u212, u213, u214, u215, v216, v217, v218, v219, v220, v221, v222, v223, v224, v225, v226, v227, v228, v229, v230, v231, v232, v233, v234, v235, v236, v237, v238, v239, v240, v241, v242, v243], defers := [] } wy) : (pS Try.f8).wp Try.prog Q { tmps := #[.int .i64 most, v1, v2, v3, v4, .pointer (some ⟨G, 0, none⟩), v6, .pointer (some ⟨X, 0, none⟩), v8, .pointer (some ⟨Y, 0, none⟩), .int .i64 0, v11, v12, v13, v14, v15, v16, v17, v18, v19, v20, v21, v22, v23, v24, v25, v26, v27, v28, v29, v30, v31, v32, v33, v34, v35, v36, v37, v38, v39, v40, v41, v42, v43, v44, v45, v46, v47, v48, v49, v50, v51, v52, v53, v54, v55, v56, v57, v58, v59, v60, v61, v62, v63, v64, v65, v66, v67, v68, v69, v70, v71, v72, v73, v74, v75, v76, v77, v78, v79, v80, v81, v82, v83, v84, v85, v86, v87, v88, v89, v90, v91, v92, v93, v94, v95, v96, v97, v98, v99, v100, v101, v102, v103, v104, v105, v106, v107, v108, v109, v110, v111, v112, v113, v114, v115, v116, v117, v118, v119, v120, v121, v122, v123, v124, v125, v126, v127, v128, v129, v130, v131, v132, v133, v134, v135, v136, v137, v138, v139, v140, v141, v142, v143, v144, v145, v146, v147, v148, v149, v150, v151, v152, v153, v154, v155, v156, v157, v158, v159, v160, v161, v162, v163, v164, v165, v166, v167, v168, v169, v170, v171, v172, v173, v174, v175, v176, v177, v178, v179, v180, v181, v182, v183, v184, v185, v186, v187, v188, v189, v190, v191, v192, v193, v194, v195, v196, v197, v198, v199, v200, v201, v202, v203, v204, v205, v206, v207, v208, v209, v210, v211, v212, v213, v214, v215, v216, v217, v218, v219, v220, v221, v222, v223, v224, v225, v226, v227, v228, v229, v230, v231, v232, v233, v234, v235, v236, v237, v238, v239, v240, v241, v242, v243], defers := [] } wx := by
  have H := Aside0.mk h
  have HQ := Lib.hid hQ
  have HXL := Lib.hid h.hxl
  have HI := Lib.hid (h.insert hf)
  clear hf
  obtain ⟨y0, y1, y2⟩ := cells72 h.y
  obtain ⟨x0, x1, f0, f1⟩ := h.gx.x.cells
  rw [HXL.out] at x0
  clear h hQ
  dsimp only [pS, pRB, pBlk, pLB, cH, cT, cB, Try.f8, Option.getD]
  go_wp2_with fail
  refine HI.out.mono ?_
  rintro e w3 ⟨rfl, gap', vB', m3⟩
  have M3 := Aside0.mk m3
  clear m3 x0 x1 f0 f1 y0 y1 y2
  obtain ⟨x0, x1, f0, f1⟩ := M3.out.x.cells
  rw [HXL.out] at x0
  obtain ⟨y0, y1, y2⟩ := cells72 M3.out.y
  go_wp2_with fail
  refine (M3.out.ins HXL.out H.out.hln (by have := H.out.l60; have := H.out.xbig; omega)).mono ?_
  rintro e w5 ⟨A', c', n', pl, rfl, hr, hn, hpl, hb⟩
  have M5 := Aside0.mk (M3.out.below hb)
  have HR := Aside0.mk hr
  have HN := Lib.hid hn
  have HPL := Lib.hid hpl
  clear x0 x1 f0 f1 y0 y1 y2 hr hn hpl hb
  obtain ⟨x0, x1, f0, f1⟩ := M5.out.x.cells
  rw [HXL.out] at x0
  obtain ⟨y0, y1, y2⟩ := cells72 M5.out.y
  go_wp2_with fail
  obtain ⟨hG, hX, hv⟩ := M3.out.blocks
  exact HQ.out _ _ _ _ _ _ _ _ _ _ _ _ _ _ _ _ _ _ _ _ _ _ _ _ _ _ _ _ _ _ _ _ _ _ _ _ _ _ _ _ _ _ _ _ _ _ _ _ _ _ _ _ _ _ _ _ _ _ _ _ _ _ _ _ _ _ _ _ _ _ _ _ _ _ _ _ _ _ _ _ _ _ _ _ _ _ _ _ _ _ _ _ _ _ _ _ _ _ _ _ _ _ _ _ _ _ _ _ _ _ _ _ _ _ _ _ _ _ _ _ _ _ _ _ _ _ _ _ _ _ _ _ _ (M5.out.store HR.out HN.out rfl rfl hG hX hv (by have := H.out.len; have := H.out.hln; have := H.out.l60; rw [List.length_append]; omega) _ (by rw [HPL.out]))

set_option linter.unusedVariables false in
set_option maxRecDepth 100000 in
set_option maxHeartbeats 8000000 in
theorem segS0_bad {Q : Exit → Act → World → Prop} {v1 v2 v3 v4 v6 v8 v11 v12 v13 v14 v15 v16 v17 v18 v19 v20 v21 v22 v23 v24 v25 v26 v27 v28 v29 v30 v31 v32 v33 v34 v35 v36 v37 v38 v39 v40 v41 v42 v43 v44 v45 v46 v47 v48 v49 v50 v51 v52 v53 v54 v55 v56 v57 v58 v59 v60 v61 v62 v63 v64 v65 v66 v67 v68 v69 v70 v71 v72 v73 v74 v75 v76 v77 v78 v79 v80 v81 v82 v83 v84 v85 v86 v87 v88 v89 v90 v91 v92 v93 v94 v95 v96 v97 v98 v99 v100 v101 v102 v103 v104 v105 v106 v107 v108 v109 v110 v111 v112 v113 v114 v115 v116 v117 v118 v119 v120 v121 v122 v123 v124 v125 v126 v127 v128 v129 v130 v131 v132 v133 v134 v135 v136 v137 v138 v139 v140 v141 v142 v143 v144 v145 v146 v147 v148 v149 v150 v151 v152 v153 v154 v155 v156 v157 v158 v159 v160 v161 v162 v163 v164 v165 v166 v167 v168 v169 v170 v171 v172 v173 v174 v175 v176 v177 v178 v179 v180 v181 v182 v183 v184 v185 v186 v187 v188 v189 v190 v191 v192 v193 v194 v195 v196 v197 v198 v199 v200 v201 v202 v203 v204 v205 v206 v207 v208 v209 v210 v211 v212 v213 v214 v215 v216 v217 v218 v219 v220 v221 v222 v223 v224 v225 v226 v227 v228 v229 v230 v231 v232 v233 v234 v235 v236 v237 v238 v239 v240 v241 v242 v243 : Value} {w wx : World} {G X Y : Nat} {most qn : Int} {qA A0 : Option Addr} {qc c0 ln xl : Nat} {ql pre gap post : List S82} {vB : Value} {f : Int} (h : Rnd w wx G X Y most 0 qn ql pre gap post vB qA A0 qc c0 ln xl) (hf : fitE ql (xl : Int) most = f) (hf0 : (f == 0) = false)
    (hQ : ∀ (u11 u12 u13 u14 u88 u89 u90 u91 u92 u93 u94 u95 u96 u97 u98 u99 u100 u101 u102 u103 u104 u105 u106 u107 u108 u109 u110 u111 u112 u113 u114 u115 u116 u117 u118 u119 u120 u121 u122 u123 u124 u125 u126 u127 u128 u129 u130 u131 u132 u133 u134 u135 u136 u137 u138 u139 u140 u141 u142 u143 u144 u145 u146 u147 u148 u149 u150 u151 u152 u153 u154 u155 u156 u157 u158 u159 u160 u161 u162 u163 u164 u165 u166 u167 u168 u169 u170 u171 u172 u173 u174 u175 u176 u177 u178 u179 u180 u181 u182 u183 u184 u185 u186 u187 u188 u189 u190 u191 u192 u193 u194 u195 u196 u197 u198 u199 u200 u201 u202 u203 u204 u205 u206 u207 u208 u209 u210 u211 u212 u213 u214 u215 : Value) (wy : World), GN w wy G X most (xl + 60) → Q .normal { tmps := #[.int .i64 most, v1, v2, v3, v4, .pointer (some ⟨G, 0, none⟩), v6, .pointer (some ⟨X, 0, none⟩), v8, .pointer (some ⟨Y, 0, none⟩), .int .i64 f, u11, u12, u13, u14, v15, v16, v17, v18, v19, v20, v21, v22, v23, v24, v25, v26, v27, v28, v29, v30, v31, v32, v33, v34, v35, v36, v37, v38, v39, v40, v41, v42, v43, v44, v45, v46, v47, v48, v49, v50, v51, v52, v53, v54, v55, v56, v57, v58, v59, v60, v61, v62, v63, v64, v65, v66, v67, v68, v69, v70, v71, v72, v73, v74, v75, v76, v77, v78, v79, v80, v81, v82, v83, v84, v85, v86, v87, u88, u89, u90, u91, u92, u93, u94, u95, u96, u97, u98, u99, u100, u101, u102, u103, u104, u105, u106, u107, u108, u109, u110, u111, u112, u113, u114, u115, u116, u117, u118, u119, u120, u121, u122, u123, u124, u125, u126, u127, u128, u129, u130, u131, u132, u133, u134, u135, u136, u137, u138, u139, u140, u141, u142, u143, u144, u145, u146, u147, u148, u149, u150, u151, u152, u153, u154, u155, u156, u157, u158, u159, u160, u161, u162, u163, u164, u165, u166, u167, u168, u169, u170, u171, u172, u173, u174, u175, u176, u177, u178, u179, u180, u181, u182, u183, u184, u185, u186, u187, u188, u189, u190, u191, u192, u193, u194, u195, u196, u197, u198, u199, u200, u201, u202, u203, u204, u205, u206, u207, u208, u209, u210, u211, u212, u213, u214, u215, v216, v217, v218, v219, v220, v221, v222, v223, v224, v225, v226, v227, v228, v229, v230, v231, v232, v233, v234, v235, v236, v237, v238, v239, v240, v241, v242, v243], defers := [] } wy) : (pS Try.f8).wp Try.prog Q { tmps := #[.int .i64 most, v1, v2, v3, v4, .pointer (some ⟨G, 0, none⟩), v6, .pointer (some ⟨X, 0, none⟩), v8, .pointer (some ⟨Y, 0, none⟩), .int .i64 f, v11, v12, v13, v14, v15, v16, v17, v18, v19, v20, v21, v22, v23, v24, v25, v26, v27, v28, v29, v30, v31, v32, v33, v34, v35, v36, v37, v38, v39, v40, v41, v42, v43, v44, v45, v46, v47, v48, v49, v50, v51, v52, v53, v54, v55, v56, v57, v58, v59, v60, v61, v62, v63, v64, v65, v66, v67, v68, v69, v70, v71, v72, v73, v74, v75, v76, v77, v78, v79, v80, v81, v82, v83, v84, v85, v86, v87, v88, v89, v90, v91, v92, v93, v94, v95, v96, v97, v98, v99, v100, v101, v102, v103, v104, v105, v106, v107, v108, v109, v110, v111, v112, v113, v114, v115, v116, v117, v118, v119, v120, v121, v122, v123, v124, v125, v126, v127, v128, v129, v130, v131, v132, v133, v134, v135, v136, v137, v138, v139, v140, v141, v142, v143, v144, v145, v146, v147, v148, v149, v150, v151, v152, v153, v154, v155, v156, v157, v158, v159, v160, v161, v162, v163, v164, v165, v166, v167, v168, v169, v170, v171, v172, v173, v174, v175, v176, v177, v178, v179, v180, v181, v182, v183, v184, v185, v186, v187, v188, v189, v190, v191, v192, v193, v194, v195, v196, v197, v198, v199, v200, v201, v202, v203, v204, v205, v206, v207, v208, v209, v210, v211, v212, v213, v214, v215, v216, v217, v218, v219, v220, v221, v222, v223, v224, v225, v226, v227, v228, v229, v230, v231, v232, v233, v234, v235, v236, v237, v238, v239, v240, v241, v242, v243], defers := [] } wx := by
  have H := Aside0.mk h
  have HQ := Lib.hid hQ
  have HXL := Lib.hid h.hxl
  have HI := Lib.hid (h.insert_bad f hf hf0)
  clear hf
  obtain ⟨y0, y1, y2⟩ := cells72 h.y
  obtain ⟨x0, x1, f0, f1⟩ := h.gx.x.cells
  rw [HXL.out] at x0
  clear h hQ
  dsimp only [pS, pRB, pBlk, pLB, cH, cT, cB, Try.f8, Option.getD]
  go_wp2_with fail
  refine HI.out.mono ?_
  rintro e w3 ⟨rfl, m3⟩
  have M3 := Aside0.mk m3
  clear m3
  go_wp2_with fail
  exact HQ.out _ _ _ _ _ _ _ _ _ _ _ _ _ _ _ _ _ _ _ _ _ _ _ _ _ _ _ _ _ _ _ _ _ _ _ _ _ _ _ _ _ _ _ _ _ _ _ _ _ _ _ _ _ _ _ _ _ _ _ _ _ _ _ _ _ _ _ _ _ _ _ _ _ _ _ _ _ _ _ _ _ _ _ _ _ _ _ _ _ _ _ _ _ _ _ _ _ _ _ _ _ _ _ _ _ _ _ _ _ _ _ _ _ _ _ _ _ _ _ _ _ _ _ _ _ _ _ _ _ _ _ _ _ ⟨pre, gap, post, vB, A0, c0, M3.out.gx, by have := H.out.len; omega⟩

end Go.Proofs.Ytopmenioioljoaa.GapW

/-
  THE LAW GapDoes, ITS PIECES: Cut.
-/
namespace Go.Proofs.Ytopmenioioljoaa.GapW
open Go.RowKit Go.Proofs.Ytopmenioioljoaa.Base Go.Proofs.YtopmenioioljoaaW.PrintWords Go.Proofs.YtopmenioioljoaaW.PrintLast Go.Proofs.YtopmenioioljoaaW.PrintMore Go.Proofs.Ytopmenioioljoaa.PGapDoes Go.Proofs.Ytopmenioioljoaa.CountW

set_option linter.unusedVariables false in
set_option maxRecDepth 100000 in
set_option maxHeartbeats 8000000 in
theorem segS1 {Q : Exit → Act → World → Prop} {v1 v2 v3 v4 v6 v8 v11 v12 v13 v14 v15 v16 v17 v18 v19 v20 v21 v22 v23 v24 v25 v26 v27 v28 v29 v30 v31 v32 v33 v34 v35 v36 v37 v38 v39 v40 v41 v42 v43 v44 v45 v46 v47 v48 v49 v50 v51 v52 v53 v54 v55 v56 v57 v58 v59 v60 v61 v62 v63 v64 v65 v66 v67 v68 v69 v70 v71 v72 v73 v74 v75 v76 v77 v78 v79 v80 v81 v82 v83 v84 v85 v86 v87 v88 v89 v90 v91 v92 v93 v94 v95 v96 v97 v98 v99 v100 v101 v102 v103 v104 v105 v106 v107 v108 v109 v110 v111 v112 v113 v114 v115 v116 v117 v118 v119 v120 v121 v122 v123 v124 v125 v126 v127 v128 v129 v130 v131 v132 v133 v134 v135 v136 v137 v138 v139 v140 v141 v142 v143 v144 v145 v146 v147 v148 v149 v150 v151 v152 v153 v154 v155 v156 v157 v158 v159 v160 v161 v162 v163 v164 v165 v166 v167 v168 v169 v170 v171 v172 v173 v174 v175 v176 v177 v178 v179 v180 v181 v182 v183 v184 v185 v186 v187 v188 v189 v190 v191 v192 v193 v194 v195 v196 v197 v198 v199 v200 v201 v202 v203 v204 v205 v206 v207 v208 v209 v210 v211 v212 v213 v214 v215 v216 v217 v218 v219 v220 v221 v222 v223 v224 v225 v226 v227 v228 v229 v230 v231 v232 v233 v234 v235 v236 v237 v238 v239 v240 v241 v242 v243 : Value} {w wx : World} {G X Y : Nat} {most qn : Int} {qA A0 : Option Addr} {qc c0 ln xl : Nat} {ql pre gap post : List S82} {vB : Value} {w10 : Value} (h : Rnd w wx G X Y most 1 qn ql pre gap post vB qA A0 qc c0 ln xl)
    (hQ : ∀ (u11 u12 u13 u14 u88 u89 u90 u91 u92 u93 u94 u95 u96 u97 u98 u99 u100 u101 u102 u103 u104 u105 u106 u107 u108 u109 u110 u111 u112 u113 u114 u115 u116 u117 u118 u119 u120 u121 u122 u123 u124 u125 u126 u127 u128 u129 u130 u131 u132 u133 u134 u135 u136 u137 u138 u139 u140 u141 u142 u143 u144 u145 u146 u147 u148 u149 u150 u151 u152 u153 u154 u155 u156 u157 u158 u159 u160 u161 u162 u163 u164 u165 u166 u167 u168 u169 u170 u171 u172 u173 u174 u175 u176 u177 u178 u179 u180 u181 u182 u183 u184 u185 u186 u187 u188 u189 u190 u191 u192 u193 u194 u195 u196 u197 u198 u199 u200 u201 u202 u203 u204 u205 u206 u207 u208 u209 u210 u211 u212 u213 u214 u215 : Value) (wy : World), GN w wy G X most (xl + 60) → Q .normal { tmps := #[.int .i64 most, v1, v2, v3, v4, .pointer (some ⟨G, 0, none⟩), v6, .pointer (some ⟨X, 0, none⟩), v8, .pointer (some ⟨Y, 0, none⟩), w10, u11, u12, u13, u14, v15, v16, v17, v18, v19, v20, v21, v22, v23, v24, v25, v26, v27, v28, v29, v30, v31, v32, v33, v34, v35, v36, v37, v38, v39, v40, v41, v42, v43, v44, v45, v46, v47, v48, v49, v50, v51, v52, v53, v54, v55, v56, v57, v58, v59, v60, v61, v62, v63, v64, v65, v66, v67, v68, v69, v70, v71, v72, v73, v74, v75, v76, v77, v78, v79, v80, v81, v82, v83, v84, v85, v86, v87, u88, u89, u90, u91, u92, u93, u94, u95, u96, u97, u98, u99, u100, u101, u102, u103, u104, u105, u106, u107, u108, u109, u110, u111, u112, u113, u114, u115, u116, u117, u118, u119, u120, u121, u122, u123, u124, u125, u126, u127, u128, u129, u130, u131, u132, u133, u134, u135, u136, u137, u138, u139, u140, u141, u142, u143, u144, u145, u146, u147, u148, u149, u150, u151, u152, u153, u154, u155, u156, u157, u158, u159, u160, u161, u162, u163, u164, u165, u166, u167, u168, u169, u170, u171, u172, u173, u174, u175, u176, u177, u178, u179, u180, u181, u182, u183, u184, u185, u186, u187, u188, u189, u190, u191, u192, u193, u194, u195, u196, u197, u198, u199, u200, u201, u202, u203, u204, u205, u206, u207, u208, u209, u210, u211, u212, u213, u214, u215, v216, v217, v218, v219, v220, v221, v222, v223, v224, v225, v226, v227, v228, v229, v230, v231, v232, v233, v234, v235, v236, v237, v238, v239, v240, v241, v242, v243], defers := [] } wy) : (pS Try.f8).wp Try.prog Q { tmps := #[.int .i64 most, v1, v2, v3, v4, .pointer (some ⟨G, 0, none⟩), v6, .pointer (some ⟨X, 0, none⟩), v8, .pointer (some ⟨Y, 0, none⟩), w10, v11, v12, v13, v14, v15, v16, v17, v18, v19, v20, v21, v22, v23, v24, v25, v26, v27, v28, v29, v30, v31, v32, v33, v34, v35, v36, v37, v38, v39, v40, v41, v42, v43, v44, v45, v46, v47, v48, v49, v50, v51, v52, v53, v54, v55, v56, v57, v58, v59, v60, v61, v62, v63, v64, v65, v66, v67, v68, v69, v70, v71, v72, v73, v74, v75, v76, v77, v78, v79, v80, v81, v82, v83, v84, v85, v86, v87, v88, v89, v90, v91, v92, v93, v94, v95, v96, v97, v98, v99, v100, v101, v102, v103, v104, v105, v106, v107, v108, v109, v110, v111, v112, v113, v114, v115, v116, v117, v118, v119, v120, v121, v122, v123, v124, v125, v126, v127, v128, v129, v130, v131, v132, v133, v134, v135, v136, v137, v138, v139, v140, v141, v142, v143, v144, v145, v146, v147, v148, v149, v150, v151, v152, v153, v154, v155, v156, v157, v158, v159, v160, v161, v162, v163, v164, v165, v166, v167, v168, v169, v170, v171, v172, v173, v174, v175, v176, v177, v178, v179, v180, v181, v182, v183, v184, v185, v186, v187, v188, v189, v190, v191, v192, v193, v194, v195, v196, v197, v198, v199, v200, v201, v202, v203, v204, v205, v206, v207, v208, v209, v210, v211, v212, v213, v214, v215, v216, v217, v218, v219, v220, v221, v222, v223, v224, v225, v226, v227, v228, v229, v230, v231, v232, v233, v234, v235, v236, v237, v238, v239, v240, v241, v242, v243], defers := [] } wx := by
  have H := Aside0.mk h
  have HQ := Lib.hid hQ
  have HXL := Lib.hid h.hxl
  obtain ⟨tt, lo, hi, ht, hlo, hhi, hle, hhx, hlp, hcut⟩ := h.cut
  have HC := Lib.hid hcut
  obtain ⟨p, hp⟩ : ∃ p, pre.length = p := ⟨_, rfl⟩
  obtain ⟨a1, ha1⟩ : ∃ a1, max qn (-100000) = a1 := ⟨_, rfl⟩
  obtain ⟨a2, ha2⟩ : ∃ a2, min a1 100000 = a2 := ⟨_, rfl⟩
  have R1 := fun W => rhigh qn (-100000) W
  have R2 := fun W => rlow a1 100000 W
  have R3 := fun W => rplace xl ((p : Int) + a2) W
  have R4 := fun W => rlow (p : Int) (tt : Int) W
  have R5 := fun W => rhigh (p : Int) (tt : Int) W
  rw [hp, ha1, ha2] at ht
  rw [hp] at hlo hhi hlp
  simp only [ha1, ha2, ht, hlo, hhi] at R1 R2 R3 R4 R5
  have HR1 := Lib.hid R1
  have HR2 := Lib.hid R2
  have HR3 := Lib.hid R3
  have HR4 := Lib.hid R4
  have HR5 := Lib.hid R5
  have hlen := h.len
  have hxb := h.xbig
  have hcap := h.gx.x.src.cap
  rw [HXL.out] at hcap
  have ws : IntKind.i64.wrap ((p : Int) + a2) = (p : Int) + a2 := by rw [IntKind.wrap_i64]; omega
  have k1 := cutm82 A0 xl c0 lo hi hle hhx hcap
  obtain ⟨A2, hA2⟩ : ∃ A2, cutA A0 c0 lo = A2 := ⟨_, rfl⟩
  rw [hA2] at k1
  have HA2 := Lib.hid hA2
  have HP := Lib.hid hp
  have HBD := Lib.hid (show lo ≤ hi ∧ hi ≤ xl ∧ lo ≤ p ∧ xl ≤ 2400 from ⟨hle, hhx, hlp, hxb⟩)
  have HLO := Lib.hid hlo
  have hXY := h.yx
  have hYX := h.yx.symm
  clear hcut R1 R2 R3 R4 R5 ht hlo hhi hle hhx hlp ha1 ha2 hlen hxb hcap hA2
  obtain ⟨y0, y1, y2⟩ := cells72 h.y
  obtain ⟨x0, x1, f0, f1⟩ := h.gx.x.cells
  rw [HXL.out] at x0
  clear h hQ
  dsimp only [pS, pRB, pBlk, pLB, cH, cT, cB, Try.f8, Option.getD]
  rw [HP.out] at x1
  clear hp
  go_wp2_with fail
  go_region_held3 (fun w' => w'.cell? ⟨X, 0, none⟩ = some (.slice A0 xl c0) ∧ w'.cell? ⟨X, 1, none⟩ = some (.int .i64 (p : Int)) ∧ w'.cell? ⟨Y, 1, none⟩ = some (.int .i64 qn)) (first | go_keep)
    (first
      | (go_at_call 18; refine (HR1.out _).mono ?_; rintro e w3 ⟨rfl, m1, rfl⟩)
      | (go_at_call 17; refine (HR2.out _).mono ?_; rintro e w3 ⟨rfl, m2, rfl⟩)
      | (go_at_call 46; refine (HR3.out _).mono ?_; rintro e w3 ⟨rfl, m3, rfl⟩))
  go_wp2_with fail
  refine (HR4.out _).mono ?_
  rintro e w3 ⟨rfl, m4, rfl⟩
  go_wp2_with fail
  refine (HR5.out _).mono ?_
  rintro e w3 ⟨rfl, m5, rfl⟩
  go_wp2_with fail
  go_region_held3 (fun w' => w'.cell? ⟨X, 0, none⟩ = some (.slice A0 xl c0) ∧ w'.cell? ⟨Y, 1, none⟩ = some (.int .i64 qn)) (first | go_keep)
    (first
      | (go_at_call 48; refine (HC.out _ (by first | exact H.out.below (bdrewN _ _) | exact H.out.below (below_drew (bdrewN _ _)))).mono ?_; rintro e w4 ⟨A1, c1, p3, g3, q3, rfl, hs, hm, hpq, hp3⟩; have z0 := hm.x.cells.1; have z1 := (cells72 hm.y).2.1; rw [HXL.out] at z0)
      | (go_at_call 47; refine (rsame_n (by have := HBD.out; rw [List.length_drop, List.length_take, HXL.out]; omega) hs (HA2.out ▸ hm.x.src.mid HBD.out.1 (by rw [HXL.out]; exact HBD.out.2.1)) (by have := HBD.out; omega)).mono ?_; rintro e w5 ⟨rfl, hb5⟩; have z0 := (hm.below hb5).x.cells.1; have z1 := (cells72 (hm.below hb5).y).2.1; rw [HXL.out] at z0))
  have M5 := Aside0.mk (hm.below hb5)
  have HPQ := Lib.hid hpq
  have HP3 := Lib.hid hp3
  clear hm hb5 hs hpq hp3 z0 z1 x0 x1 f0 f1 y0 y1 y2
  obtain ⟨x0, x1, f0, f1⟩ := M5.out.x.cells
  rw [HXL.out] at x0
  rw [HP.out] at x1
  have HWI := Lib.hid (M5.out.without (lo := lo) (hi := hi) HXL.out (by have := HBD.out; omega) HBD.out.2.1 (by have := HBD.out; omega))
  rw [HP.out] at HWI
  go_wp2_with fail
  refine HWI.out.mono ?_
  rintro e w6 ⟨A', c', n', rfl, hr, hn, hb6⟩
  have M6 := Aside0.mk (M5.out.below hb6)
  have HR := Aside0.mk hr
  have HN := Lib.hid hn
  clear x0 x1 f0 f1 hr hn hb6
  obtain ⟨x0, x1, f0, f1⟩ := M6.out.x.cells
  rw [HXL.out] at x0
  go_wp2_with fail
  obtain ⟨hG, hX, hv⟩ := M5.out.blocks
  have hR := HR.out
  have hN := HN.out
  rw [← HPQ.out] at hR hN
  have hle : p3.length + q3.length ≤ xl + 60 := by
    have h1 := congrArg List.length HPQ.out
    have h2 := HBD.out
    rw [List.length_append, List.length_append, List.length_take, List.length_drop, HXL.out] at h1
    omega
  exact HQ.out _ _ _ _ _ _ _ _ _ _ _ _ _ _ _ _ _ _ _ _ _ _ _ _ _ _ _ _ _ _ _ _ _ _ _ _ _ _ _ _ _ _ _ _ _ _ _ _ _ _ _ _ _ _ _ _ _ _ _ _ _ _ _ _ _ _ _ _ _ _ _ _ _ _ _ _ _ _ _ _ _ _ _ _ _ _ _ _ _ _ _ _ _ _ _ _ _ _ _ _ _ _ _ _ _ _ _ _ _ _ _ _ _ _ _ _ _ _ _ _ _ _ _ _ _ _ _ _ _ _ _ _ _ (M6.out.store hR hN rfl rfl hG hX hv hle _ (by rw [HP3.out]))

end Go.Proofs.Ytopmenioioljoaa.GapW

/-
  THE LAW GapDoes, ITS PIECES: Move, Set.
-/
namespace Go.Proofs.Ytopmenioioljoaa.GapW
open Go.RowKit Go.Proofs.Ytopmenioioljoaa.Base Go.Proofs.YtopmenioioljoaaW.PrintWords Go.Proofs.YtopmenioioljoaaW.PrintLast Go.Proofs.YtopmenioioljoaaW.PrintMore Go.Proofs.Ytopmenioioljoaa.PGapDoes Go.Proofs.Ytopmenioioljoaa.CountW

set_option linter.unusedVariables false in
set_option maxRecDepth 100000 in
set_option maxHeartbeats 8000000 in
theorem segS2 {Q : Exit → Act → World → Prop} {v1 v2 v3 v4 v6 v8 v11 v12 v13 v14 v15 v16 v17 v18 v19 v20 v21 v22 v23 v24 v25 v26 v27 v28 v29 v30 v31 v32 v33 v34 v35 v36 v37 v38 v39 v40 v41 v42 v43 v44 v45 v46 v47 v48 v49 v50 v51 v52 v53 v54 v55 v56 v57 v58 v59 v60 v61 v62 v63 v64 v65 v66 v67 v68 v69 v70 v71 v72 v73 v74 v75 v76 v77 v78 v79 v80 v81 v82 v83 v84 v85 v86 v87 v88 v89 v90 v91 v92 v93 v94 v95 v96 v97 v98 v99 v100 v101 v102 v103 v104 v105 v106 v107 v108 v109 v110 v111 v112 v113 v114 v115 v116 v117 v118 v119 v120 v121 v122 v123 v124 v125 v126 v127 v128 v129 v130 v131 v132 v133 v134 v135 v136 v137 v138 v139 v140 v141 v142 v143 v144 v145 v146 v147 v148 v149 v150 v151 v152 v153 v154 v155 v156 v157 v158 v159 v160 v161 v162 v163 v164 v165 v166 v167 v168 v169 v170 v171 v172 v173 v174 v175 v176 v177 v178 v179 v180 v181 v182 v183 v184 v185 v186 v187 v188 v189 v190 v191 v192 v193 v194 v195 v196 v197 v198 v199 v200 v201 v202 v203 v204 v205 v206 v207 v208 v209 v210 v211 v212 v213 v214 v215 v216 v217 v218 v219 v220 v221 v222 v223 v224 v225 v226 v227 v228 v229 v230 v231 v232 v233 v234 v235 v236 v237 v238 v239 v240 v241 v242 v243 : Value} {w wx : World} {G X Y : Nat} {most qn : Int} {qA A0 : Option Addr} {qc c0 ln xl : Nat} {ql pre gap post : List S82} {vB : Value} {w10 : Value} (h : Rnd w wx G X Y most 2 qn ql pre gap post vB qA A0 qc c0 ln xl)
    (hQ : ∀ (u11 u12 u13 u14 u88 u89 u90 u91 u92 u93 u94 u95 u96 u97 u98 u99 u100 u101 u102 u103 u104 u105 u106 u107 u108 u109 u110 u111 u112 u113 u114 u115 u116 u117 u118 u119 u120 u121 u122 u123 u124 u125 u126 u127 u128 u129 u130 u131 u132 u133 u134 u135 u136 u137 u138 u139 u140 u141 u142 u143 u144 u145 u146 u147 u148 u149 u150 u151 u152 u153 u154 u155 u156 u157 u158 u159 u160 u161 u162 u163 u164 u165 u166 u167 u168 u169 u170 u171 u172 u173 u174 u175 u176 u177 u178 u179 u180 u181 u182 u183 u184 u185 u186 u187 u188 u189 u190 u191 u192 u193 u194 u195 u196 u197 u198 u199 u200 u201 u202 u203 u204 u205 u206 u207 u208 u209 u210 u211 u212 u213 u214 u215 : Value) (wy : World), GN w wy G X most (xl + 60) → Q .normal { tmps := #[.int .i64 most, v1, v2, v3, v4, .pointer (some ⟨G, 0, none⟩), v6, .pointer (some ⟨X, 0, none⟩), v8, .pointer (some ⟨Y, 0, none⟩), w10, u11, u12, u13, u14, v15, v16, v17, v18, v19, v20, v21, v22, v23, v24, v25, v26, v27, v28, v29, v30, v31, v32, v33, v34, v35, v36, v37, v38, v39, v40, v41, v42, v43, v44, v45, v46, v47, v48, v49, v50, v51, v52, v53, v54, v55, v56, v57, v58, v59, v60, v61, v62, v63, v64, v65, v66, v67, v68, v69, v70, v71, v72, v73, v74, v75, v76, v77, v78, v79, v80, v81, v82, v83, v84, v85, v86, v87, u88, u89, u90, u91, u92, u93, u94, u95, u96, u97, u98, u99, u100, u101, u102, u103, u104, u105, u106, u107, u108, u109, u110, u111, u112, u113, u114, u115, u116, u117, u118, u119, u120, u121, u122, u123, u124, u125, u126, u127, u128, u129, u130, u131, u132, u133, u134, u135, u136, u137, u138, u139, u140, u141, u142, u143, u144, u145, u146, u147, u148, u149, u150, u151, u152, u153, u154, u155, u156, u157, u158, u159, u160, u161, u162, u163, u164, u165, u166, u167, u168, u169, u170, u171, u172, u173, u174, u175, u176, u177, u178, u179, u180, u181, u182, u183, u184, u185, u186, u187, u188, u189, u190, u191, u192, u193, u194, u195, u196, u197, u198, u199, u200, u201, u202, u203, u204, u205, u206, u207, u208, u209, u210, u211, u212, u213, u214, u215, v216, v217, v218, v219, v220, v221, v222, v223, v224, v225, v226, v227, v228, v229, v230, v231, v232, v233, v234, v235, v236, v237, v238, v239, v240, v241, v242, v243], defers := [] } wy) : (pS Try.f8).wp Try.prog Q { tmps := #[.int .i64 most, v1, v2, v3, v4, .pointer (some ⟨G, 0, none⟩), v6, .pointer (some ⟨X, 0, none⟩), v8, .pointer (some ⟨Y, 0, none⟩), w10, v11, v12, v13, v14, v15, v16, v17, v18, v19, v20, v21, v22, v23, v24, v25, v26, v27, v28, v29, v30, v31, v32, v33, v34, v35, v36, v37, v38, v39, v40, v41, v42, v43, v44, v45, v46, v47, v48, v49, v50, v51, v52, v53, v54, v55, v56, v57, v58, v59, v60, v61, v62, v63, v64, v65, v66, v67, v68, v69, v70, v71, v72, v73, v74, v75, v76, v77, v78, v79, v80, v81, v82, v83, v84, v85, v86, v87, v88, v89, v90, v91, v92, v93, v94, v95, v96, v97, v98, v99, v100, v101, v102, v103, v104, v105, v106, v107, v108, v109, v110, v111, v112, v113, v114, v115, v116, v117, v118, v119, v120, v121, v122, v123, v124, v125, v126, v127, v128, v129, v130, v131, v132, v133, v134, v135, v136, v137, v138, v139, v140, v141, v142, v143, v144, v145, v146, v147, v148, v149, v150, v151, v152, v153, v154, v155, v156, v157, v158, v159, v160, v161, v162, v163, v164, v165, v166, v167, v168, v169, v170, v171, v172, v173, v174, v175, v176, v177, v178, v179, v180, v181, v182, v183, v184, v185, v186, v187, v188, v189, v190, v191, v192, v193, v194, v195, v196, v197, v198, v199, v200, v201, v202, v203, v204, v205, v206, v207, v208, v209, v210, v211, v212, v213, v214, v215, v216, v217, v218, v219, v220, v221, v222, v223, v224, v225, v226, v227, v228, v229, v230, v231, v232, v233, v234, v235, v236, v237, v238, v239, v240, v241, v242, v243], defers := [] } wx := by
  have H := Aside0.mk h
  have HQ := Lib.hid hQ
  have HXL := Lib.hid h.hxl
  have HI := Lib.hid h.move
  obtain ⟨y0, y1, y2⟩ := cells72 h.y
  obtain ⟨x0, x1, f0, f1⟩ := h.gx.x.cells
  rw [HXL.out] at x0
  clear h hQ
  dsimp only [pS, pRB, pBlk, pLB, cH, cT, cB, Try.f8, Option.getD]
  go_wp2_with fail
  refine HI.out.mono ?_
  rintro e w3 ⟨rfl, gap', m3⟩
  have M3 := Aside0.mk m3
  clear m3 x0 x1 f0 f1 y0 y1 y2
  obtain ⟨x0, x1, f0, f1⟩ := M3.out.x.cells
  rw [HXL.out] at x0
  obtain ⟨y0, y1, y2⟩ := cells72 M3.out.y
  go_wp2_with fail
  refine (rplace xl qn w3).mono ?_
  rintro e w4 ⟨rfl, m, rfl⟩
  go_wp2_with fail
  exact HQ.out _ _ _ _ _ _ _ _ _ _ _ _ _ _ _ _ _ _ _ _ _ _ _ _ _ _ _ _ _ _ _ _ _ _ _ _ _ _ _ _ _ _ _ _ _ _ _ _ _ _ _ _ _ _ _ _ _ _ _ _ _ _ _ _ _ _ _ _ _ _ _ _ _ _ _ _ _ _ _ _ _ _ _ _ _ _ _ _ _ _ _ _ _ _ _ _ _ _ _ _ _ _ _ _ _ _ _ _ _ _ _ _ _ _ _ _ _ _ _ _ _ _ _ _ _ _ _ _ _ _ _ _ _ ((M3.out.below (bdrewN w3 m)).storeAt (List.take_append_drop _ _) (by rw [HXL.out]; omega) _ (by rw [← HXL.out, plc_take]))

set_option linter.unusedVariables false in
set_option maxRecDepth 100000 in
set_option maxHeartbeats 8000000 in
theorem segS3_ok {Q : Exit → Act → World → Prop} {v1 v2 v3 v4 v6 v8 v11 v12 v13 v14 v15 v16 v17 v18 v19 v20 v21 v22 v23 v24 v25 v26 v27 v28 v29 v30 v31 v32 v33 v34 v35 v36 v37 v38 v39 v40 v41 v42 v43 v44 v45 v46 v47 v48 v49 v50 v51 v52 v53 v54 v55 v56 v57 v58 v59 v60 v61 v62 v63 v64 v65 v66 v67 v68 v69 v70 v71 v72 v73 v74 v75 v76 v77 v78 v79 v80 v81 v82 v83 v84 v85 v86 v87 v88 v89 v90 v91 v92 v93 v94 v95 v96 v97 v98 v99 v100 v101 v102 v103 v104 v105 v106 v107 v108 v109 v110 v111 v112 v113 v114 v115 v116 v117 v118 v119 v120 v121 v122 v123 v124 v125 v126 v127 v128 v129 v130 v131 v132 v133 v134 v135 v136 v137 v138 v139 v140 v141 v142 v143 v144 v145 v146 v147 v148 v149 v150 v151 v152 v153 v154 v155 v156 v157 v158 v159 v160 v161 v162 v163 v164 v165 v166 v167 v168 v169 v170 v171 v172 v173 v174 v175 v176 v177 v178 v179 v180 v181 v182 v183 v184 v185 v186 v187 v188 v189 v190 v191 v192 v193 v194 v195 v196 v197 v198 v199 v200 v201 v202 v203 v204 v205 v206 v207 v208 v209 v210 v211 v212 v213 v214 v215 v216 v217 v218 v219 v220 v221 v222 v223 v224 v225 v226 v227 v228 v229 v230 v231 v232 v233 v234 v235 v236 v237 v238 v239 v240 v241 v242 v243 : Value} {w wx : World} {G X Y : Nat} {most qn : Int} {qA A0 : Option Addr} {qc c0 ln xl : Nat} {ql pre gap post : List S82} {vB : Value} (h : Rnd w wx G X Y most 3 qn ql pre gap post vB qA A0 qc c0 ln xl) (hf : fitE ql 0 most = 0)
    (hQ : ∀ (u11 u12 u13 u14 u88 u89 u90 u91 u92 u93 u94 u95 u96 u97 u98 u99 u100 u101 u102 u103 u104 u105 u106 u107 u108 u109 u110 u111 u112 u113 u114 u115 u116 u117 u118 u119 u120 u121 u122 u123 u124 u125 u126 u127 u128 u129 u130 u131 u132 u133 u134 u135 u136 u137 u138 u139 u140 u141 u142 u143 u144 u145 u146 u147 u148 u149 u150 u151 u152 u153 u154 u155 u156 u157 u158 u159 u160 u161 u162 u163 u164 u165 u166 u167 u168 u169 u170 u171 u172 u173 u174 u175 u176 u177 u178 u179 u180 u181 u182 u183 u184 u185 u186 u187 u188 u189 u190 u191 u192 u193 u194 u195 u196 u197 u198 u199 u200 u201 u202 u203 u204 u205 u206 u207 u208 u209 u210 u211 u212 u213 u214 u215 : Value) (wy : World), GN w wy G X most (xl + 60) → Q .normal { tmps := #[.int .i64 most, v1, v2, v3, v4, .pointer (some ⟨G, 0, none⟩), v6, .pointer (some ⟨X, 0, none⟩), v8, .pointer (some ⟨Y, 0, none⟩), .int .i64 0, u11, u12, u13, u14, v15, v16, v17, v18, v19, v20, v21, v22, v23, v24, v25, v26, v27, v28, v29, v30, v31, v32, v33, v34, v35, v36, v37, v38, v39, v40, v41, v42, v43, v44, v45, v46, v47, v48, v49, v50, v51, v52, v53, v54, v55, v56, v57, v58, v59, v60, v61, v62, v63, v64, v65, v66, v67, v68, v69, v70, v71, v72, v73, v74, v75, v76, v77, v78, v79, v80, v81, v82, v83, v84, v85, v86, v87, u88, u89, u90, u91, u92, u93, u94, u95, u96, u97, u98, u99, u100, u101, u102, u103, u104, u105, u106, u107, u108, u109, u110, u111, u112, u113, u114, u115, u116, u117, u118, u119, u120, u121, u122, u123, u124, u125, u126, u127, u128, u129, u130, u131, u132, u133, u134, u135, u136, u137, u138, u139, u140, u141, u142, u143, u144, u145, u146, u147, u148, u149, u150, u151, u152, u153, u154, u155, u156, u157, u158, u159, u160, u161, u162, u163, u164, u165, u166, u167, u168, u169, u170, u171, u172, u173, u174, u175, u176, u177, u178, u179, u180, u181, u182, u183, u184, u185, u186, u187, u188, u189, u190, u191, u192, u193, u194, u195, u196, u197, u198, u199, u200, u201, u202, u203, u204, u205, u206, u207, u208, u209, u210, u211, u212, u213, u214, u215, v216, v217, v218, v219, v220, v221, v222, v223, v224, v225, v226, v227, v228, v229, v230, v231, v232, v233, v234, v235, v236, v237, v238, v239, v240, v241, v242, v243], defers := [] } wy) : (pS Try.f8).wp Try.prog Q { tmps := #[.int .i64 most, v1, v2, v3, v4, .pointer (some ⟨G, 0, none⟩), v6, .pointer (some ⟨X, 0, none⟩), v8, .pointer (some ⟨Y, 0, none⟩), .int .i64 0, v11, v12, v13, v14, v15, v16, v17, v18, v19, v20, v21, v22, v23, v24, v25, v26, v27, v28, v29, v30, v31, v32, v33, v34, v35, v36, v37, v38, v39, v40, v41, v42, v43, v44, v45, v46, v47, v48, v49, v50, v51, v52, v53, v54, v55, v56, v57, v58, v59, v60, v61, v62, v63, v64, v65, v66, v67, v68, v69, v70, v71, v72, v73, v74, v75, v76, v77, v78, v79, v80, v81, v82, v83, v84, v85, v86, v87, v88, v89, v90, v91, v92, v93, v94, v95, v96, v97, v98, v99, v100, v101, v102, v103, v104, v105, v106, v107, v108, v109, v110, v111, v112, v113, v114, v115, v116, v117, v118, v119, v120, v121, v122, v123, v124, v125, v126, v127, v128, v129, v130, v131, v132, v133, v134, v135, v136, v137, v138, v139, v140, v141, v142, v143, v144, v145, v146, v147, v148, v149, v150, v151, v152, v153, v154, v155, v156, v157, v158, v159, v160, v161, v162, v163, v164, v165, v166, v167, v168, v169, v170, v171, v172, v173, v174, v175, v176, v177, v178, v179, v180, v181, v182, v183, v184, v185, v186, v187, v188, v189, v190, v191, v192, v193, v194, v195, v196, v197, v198, v199, v200, v201, v202, v203, v204, v205, v206, v207, v208, v209, v210, v211, v212, v213, v214, v215, v216, v217, v218, v219, v220, v221, v222, v223, v224, v225, v226, v227, v228, v229, v230, v231, v232, v233, v234, v235, v236, v237, v238, v239, v240, v241, v242, v243], defers := [] } wx := by
  have H := Aside0.mk h
  have HQ := Lib.hid hQ
  have HXL := Lib.hid h.hxl
  have HI := Lib.hid (h.set_ hf)
  have hXY := h.yx
  have hYX := h.yx.symm
  clear hf
  obtain ⟨y0, y1, y2⟩ := cells72 h.y
  obtain ⟨x0, x1, f0, f1⟩ := h.gx.x.cells
  rw [HXL.out] at x0
  clear h hQ
  dsimp only [pS, pRB, pBlk, pLB, cH, cT, cB, Try.f8, Option.getD]
  go_wp2_with fail
  refine HI.out.mono ?_
  rintro e w3 ⟨rfl, gap', vB', m3⟩
  have M3 := Aside0.mk m3
  clear m3 x0 x1 f0 f1 y0 y1 y2
  obtain ⟨x0, x1, f0, f1⟩ := M3.out.x.cells
  rw [HXL.out] at x0
  obtain ⟨y0, y1, y2⟩ := cells72 M3.out.y
  go_wp2_with fail
  go_region_held3 (fun w' => w'.cell? ⟨Y, 1, none⟩ = some (.int .i64 qn) ∧ w'.cell? ⟨Y, 2, none⟩ = some (.slice qA ln qc)) (first | go_keep)
    (first | (go_at_call 46; refine (rplace ln qn _).mono ?_; rintro e w4 ⟨rfl, m, rfl⟩))
  go_wp2_with fail
  have M4 := M3.out.below (bdrewN w3 (1 + m))
  have hln := H.out.hln
  subst hln
  exact HQ.out _ _ _ _ _ _ _ _ _ _ _ _ _ _ _ _ _ _ _ _ _ _ _ _ _ _ _ _ _ _ _ _ _ _ _ _ _ _ _ _ _ _ _ _ _ _ _ _ _ _ _ _ _ _ _ _ _ _ _ _ _ _ _ _ _ _ _ _ _ _ _ _ _ _ _ _ _ _ _ _ _ _ _ _ _ _ _ _ _ _ _ _ _ _ _ _ _ _ _ _ _ _ _ _ _ _ _ _ _ _ _ _ _ _ _ _ _ _ _ _ _ _ _ _ _ _ _ _ _ _ _ _ _ (M4.storeArg rfl (plc_le _ _) (by have := H.out.l60; omega))

set_option linter.unusedVariables false in
set_option maxRecDepth 100000 in
set_option maxHeartbeats 8000000 in
theorem segS3_bad {Q : Exit → Act → World → Prop} {v1 v2 v3 v4 v6 v8 v11 v12 v13 v14 v15 v16 v17 v18 v19 v20 v21 v22 v23 v24 v25 v26 v27 v28 v29 v30 v31 v32 v33 v34 v35 v36 v37 v38 v39 v40 v41 v42 v43 v44 v45 v46 v47 v48 v49 v50 v51 v52 v53 v54 v55 v56 v57 v58 v59 v60 v61 v62 v63 v64 v65 v66 v67 v68 v69 v70 v71 v72 v73 v74 v75 v76 v77 v78 v79 v80 v81 v82 v83 v84 v85 v86 v87 v88 v89 v90 v91 v92 v93 v94 v95 v96 v97 v98 v99 v100 v101 v102 v103 v104 v105 v106 v107 v108 v109 v110 v111 v112 v113 v114 v115 v116 v117 v118 v119 v120 v121 v122 v123 v124 v125 v126 v127 v128 v129 v130 v131 v132 v133 v134 v135 v136 v137 v138 v139 v140 v141 v142 v143 v144 v145 v146 v147 v148 v149 v150 v151 v152 v153 v154 v155 v156 v157 v158 v159 v160 v161 v162 v163 v164 v165 v166 v167 v168 v169 v170 v171 v172 v173 v174 v175 v176 v177 v178 v179 v180 v181 v182 v183 v184 v185 v186 v187 v188 v189 v190 v191 v192 v193 v194 v195 v196 v197 v198 v199 v200 v201 v202 v203 v204 v205 v206 v207 v208 v209 v210 v211 v212 v213 v214 v215 v216 v217 v218 v219 v220 v221 v222 v223 v224 v225 v226 v227 v228 v229 v230 v231 v232 v233 v234 v235 v236 v237 v238 v239 v240 v241 v242 v243 : Value} {w wx : World} {G X Y : Nat} {most qn : Int} {qA A0 : Option Addr} {qc c0 ln xl : Nat} {ql pre gap post : List S82} {vB : Value} {f : Int} (h : Rnd w wx G X Y most 3 qn ql pre gap post vB qA A0 qc c0 ln xl) (hf : fitE ql 0 most = f) (hf0 : (f == 0) = false)
    (hQ : ∀ (u11 u12 u13 u14 u88 u89 u90 u91 u92 u93 u94 u95 u96 u97 u98 u99 u100 u101 u102 u103 u104 u105 u106 u107 u108 u109 u110 u111 u112 u113 u114 u115 u116 u117 u118 u119 u120 u121 u122 u123 u124 u125 u126 u127 u128 u129 u130 u131 u132 u133 u134 u135 u136 u137 u138 u139 u140 u141 u142 u143 u144 u145 u146 u147 u148 u149 u150 u151 u152 u153 u154 u155 u156 u157 u158 u159 u160 u161 u162 u163 u164 u165 u166 u167 u168 u169 u170 u171 u172 u173 u174 u175 u176 u177 u178 u179 u180 u181 u182 u183 u184 u185 u186 u187 u188 u189 u190 u191 u192 u193 u194 u195 u196 u197 u198 u199 u200 u201 u202 u203 u204 u205 u206 u207 u208 u209 u210 u211 u212 u213 u214 u215 : Value) (wy : World), GN w wy G X most (xl + 60) → Q .normal { tmps := #[.int .i64 most, v1, v2, v3, v4, .pointer (some ⟨G, 0, none⟩), v6, .pointer (some ⟨X, 0, none⟩), v8, .pointer (some ⟨Y, 0, none⟩), .int .i64 f, u11, u12, u13, u14, v15, v16, v17, v18, v19, v20, v21, v22, v23, v24, v25, v26, v27, v28, v29, v30, v31, v32, v33, v34, v35, v36, v37, v38, v39, v40, v41, v42, v43, v44, v45, v46, v47, v48, v49, v50, v51, v52, v53, v54, v55, v56, v57, v58, v59, v60, v61, v62, v63, v64, v65, v66, v67, v68, v69, v70, v71, v72, v73, v74, v75, v76, v77, v78, v79, v80, v81, v82, v83, v84, v85, v86, v87, u88, u89, u90, u91, u92, u93, u94, u95, u96, u97, u98, u99, u100, u101, u102, u103, u104, u105, u106, u107, u108, u109, u110, u111, u112, u113, u114, u115, u116, u117, u118, u119, u120, u121, u122, u123, u124, u125, u126, u127, u128, u129, u130, u131, u132, u133, u134, u135, u136, u137, u138, u139, u140, u141, u142, u143, u144, u145, u146, u147, u148, u149, u150, u151, u152, u153, u154, u155, u156, u157, u158, u159, u160, u161, u162, u163, u164, u165, u166, u167, u168, u169, u170, u171, u172, u173, u174, u175, u176, u177, u178, u179, u180, u181, u182, u183, u184, u185, u186, u187, u188, u189, u190, u191, u192, u193, u194, u195, u196, u197, u198, u199, u200, u201, u202, u203, u204, u205, u206, u207, u208, u209, u210, u211, u212, u213, u214, u215, v216, v217, v218, v219, v220, v221, v222, v223, v224, v225, v226, v227, v228, v229, v230, v231, v232, v233, v234, v235, v236, v237, v238, v239, v240, v241, v242, v243], defers := [] } wy) : (pS Try.f8).wp Try.prog Q { tmps := #[.int .i64 most, v1, v2, v3, v4, .pointer (some ⟨G, 0, none⟩), v6, .pointer (some ⟨X, 0, none⟩), v8, .pointer (some ⟨Y, 0, none⟩), .int .i64 f, v11, v12, v13, v14, v15, v16, v17, v18, v19, v20, v21, v22, v23, v24, v25, v26, v27, v28, v29, v30, v31, v32, v33, v34, v35, v36, v37, v38, v39, v40, v41, v42, v43, v44, v45, v46, v47, v48, v49, v50, v51, v52, v53, v54, v55, v56, v57, v58, v59, v60, v61, v62, v63, v64, v65, v66, v67, v68, v69, v70, v71, v72, v73, v74, v75, v76, v77, v78, v79, v80, v81, v82, v83, v84, v85, v86, v87, v88, v89, v90, v91, v92, v93, v94, v95, v96, v97, v98, v99, v100, v101, v102, v103, v104, v105, v106, v107, v108, v109, v110, v111, v112, v113, v114, v115, v116, v117, v118, v119, v120, v121, v122, v123, v124, v125, v126, v127, v128, v129, v130, v131, v132, v133, v134, v135, v136, v137, v138, v139, v140, v141, v142, v143, v144, v145, v146, v147, v148, v149, v150, v151, v152, v153, v154, v155, v156, v157, v158, v159, v160, v161, v162, v163, v164, v165, v166, v167, v168, v169, v170, v171, v172, v173, v174, v175, v176, v177, v178, v179, v180, v181, v182, v183, v184, v185, v186, v187, v188, v189, v190, v191, v192, v193, v194, v195, v196, v197, v198, v199, v200, v201, v202, v203, v204, v205, v206, v207, v208, v209, v210, v211, v212, v213, v214, v215, v216, v217, v218, v219, v220, v221, v222, v223, v224, v225, v226, v227, v228, v229, v230, v231, v232, v233, v234, v235, v236, v237, v238, v239, v240, v241, v242, v243], defers := [] } wx := by
  have H := Aside0.mk h
  have HQ := Lib.hid hQ
  have HXL := Lib.hid h.hxl
  have HI := Lib.hid (h.set_bad f hf hf0)
  clear hf
  obtain ⟨y0, y1, y2⟩ := cells72 h.y
  obtain ⟨x0, x1, f0, f1⟩ := h.gx.x.cells
  rw [HXL.out] at x0
  clear h hQ
  dsimp only [pS, pRB, pBlk, pLB, cH, cT, cB, Try.f8, Option.getD]
  go_wp2_with fail
  refine HI.out.mono ?_
  rintro e w3 ⟨rfl, m3⟩
  have M3 := Aside0.mk m3
  clear m3
  go_wp2_with fail
  exact HQ.out _ _ _ _ _ _ _ _ _ _ _ _ _ _ _ _ _ _ _ _ _ _ _ _ _ _ _ _ _ _ _ _ _ _ _ _ _ _ _ _ _ _ _ _ _ _ _ _ _ _ _ _ _ _ _ _ _ _ _ _ _ _ _ _ _ _ _ _ _ _ _ _ _ _ _ _ _ _ _ _ _ _ _ _ _ _ _ _ _ _ _ _ _ _ _ _ _ _ _ _ _ _ _ _ _ _ _ _ _ _ _ _ _ _ _ _ _ _ _ _ _ _ _ _ _ _ _ _ _ _ _ _ _ ⟨pre, gap, post, vB, A0, c0, M3.out.gx, by have := H.out.len; omega⟩

end Go.Proofs.Ytopmenioioljoaa.GapW

/-
  THE LAW GapDoes, ITS PIECES: Get.
-/
namespace Go.Proofs.Ytopmenioioljoaa.GapW
open Go.RowKit Go.Proofs.Ytopmenioioljoaa.Base Go.Proofs.YtopmenioioljoaaW.PrintWords Go.Proofs.YtopmenioioljoaaW.PrintLast Go.Proofs.YtopmenioioljoaaW.PrintMore Go.Proofs.Ytopmenioioljoaa.PGapDoes Go.Proofs.Ytopmenioioljoaa.CountW

attribute [local go_sem high] eqA82

set_option linter.unusedVariables false in
set_option maxRecDepth 100000 in
set_option maxHeartbeats 8000000 in
theorem segS4_neg {Q : Exit → Act → World → Prop} {v1 v2 v3 v4 v6 v8 v11 v12 v13 v14 v15 v16 v17 v18 v19 v20 v21 v22 v23 v24 v25 v26 v27 v28 v29 v30 v31 v32 v33 v34 v35 v36 v37 v38 v39 v40 v41 v42 v43 v44 v45 v46 v47 v48 v49 v50 v51 v52 v53 v54 v55 v56 v57 v58 v59 v60 v61 v62 v63 v64 v65 v66 v67 v68 v69 v70 v71 v72 v73 v74 v75 v76 v77 v78 v79 v80 v81 v82 v83 v84 v85 v86 v87 v88 v89 v90 v91 v92 v93 v94 v95 v96 v97 v98 v99 v100 v101 v102 v103 v104 v105 v106 v107 v108 v109 v110 v111 v112 v113 v114 v115 v116 v117 v118 v119 v120 v121 v122 v123 v124 v125 v126 v127 v128 v129 v130 v131 v132 v133 v134 v135 v136 v137 v138 v139 v140 v141 v142 v143 v144 v145 v146 v147 v148 v149 v150 v151 v152 v153 v154 v155 v156 v157 v158 v159 v160 v161 v162 v163 v164 v165 v166 v167 v168 v169 v170 v171 v172 v173 v174 v175 v176 v177 v178 v179 v180 v181 v182 v183 v184 v185 v186 v187 v188 v189 v190 v191 v192 v193 v194 v195 v196 v197 v198 v199 v200 v201 v202 v203 v204 v205 v206 v207 v208 v209 v210 v211 v212 v213 v214 v215 v216 v217 v218 v219 v220 v221 v222 v223 v224 v225 v226 v227 v228 v229 v230 v231 v232 v233 v234 v235 v236 v237 v238 v239 v240 v241 v242 v243 : Value} {w wx : World} {G X Y : Nat} {most qn : Int} {qA A0 : Option Addr} {qc c0 ln xl : Nat} {ql pre gap post : List S82} {vB : Value} {qk : Int} {w10 : Value} (h : Rnd w wx G X Y most qk qn ql pre gap post vB qA A0 qc c0 ln xl) (hk0 : ¬ qk = 0) (hk1 : ¬ qk = 1) (hk2 : ¬ qk = 2) (hk3 : ¬ qk = 3) (hn : qn < 0)
    (hQ : ∀ (u11 u12 u13 u14 u88 u89 u90 u91 u92 u93 u94 u95 u96 u97 u98 u99 u100 u101 u102 u103 u104 u105 u106 u107 u108 u109 u110 u111 u112 u113 u114 u115 u116 u117 u118 u119 u120 u121 u122 u123 u124 u125 u126 u127 u128 u129 u130 u131 u132 u133 u134 u135 u136 u137 u138 u139 u140 u141 u142 u143 u144 u145 u146 u147 u148 u149 u150 u151 u152 u153 u154 u155 u156 u157 u158 u159 u160 u161 u162 u163 u164 u165 u166 u167 u168 u169 u170 u171 u172 u173 u174 u175 u176 u177 u178 u179 u180 u181 u182 u183 u184 u185 u186 u187 u188 u189 u190 u191 u192 u193 u194 u195 u196 u197 u198 u199 u200 u201 u202 u203 u204 u205 u206 u207 u208 u209 u210 u211 u212 u213 u214 u215 : Value) (wy : World), GN w wy G X most (xl + 60) → Q .normal { tmps := #[.int .i64 most, v1, v2, v3, v4, .pointer (some ⟨G, 0, none⟩), v6, .pointer (some ⟨X, 0, none⟩), v8, .pointer (some ⟨Y, 0, none⟩), w10, u11, u12, u13, u14, v15, v16, v17, v18, v19, v20, v21, v22, v23, v24, v25, v26, v27, v28, v29, v30, v31, v32, v33, v34, v35, v36, v37, v38, v39, v40, v41, v42, v43, v44, v45, v46, v47, v48, v49, v50, v51, v52, v53, v54, v55, v56, v57, v58, v59, v60, v61, v62, v63, v64, v65, v66, v67, v68, v69, v70, v71, v72, v73, v74, v75, v76, v77, v78, v79, v80, v81, v82, v83, v84, v85, v86, v87, u88, u89, u90, u91, u92, u93, u94, u95, u96, u97, u98, u99, u100, u101, u102, u103, u104, u105, u106, u107, u108, u109, u110, u111, u112, u113, u114, u115, u116, u117, u118, u119, u120, u121, u122, u123, u124, u125, u126, u127, u128, u129, u130, u131, u132, u133, u134, u135, u136, u137, u138, u139, u140, u141, u142, u143, u144, u145, u146, u147, u148, u149, u150, u151, u152, u153, u154, u155, u156, u157, u158, u159, u160, u161, u162, u163, u164, u165, u166, u167, u168, u169, u170, u171, u172, u173, u174, u175, u176, u177, u178, u179, u180, u181, u182, u183, u184, u185, u186, u187, u188, u189, u190, u191, u192, u193, u194, u195, u196, u197, u198, u199, u200, u201, u202, u203, u204, u205, u206, u207, u208, u209, u210, u211, u212, u213, u214, u215, v216, v217, v218, v219, v220, v221, v222, v223, v224, v225, v226, v227, v228, v229, v230, v231, v232, v233, v234, v235, v236, v237, v238, v239, v240, v241, v242, v243], defers := [] } wy) : (pS Try.f8).wp Try.prog Q { tmps := #[.int .i64 most, v1, v2, v3, v4, .pointer (some ⟨G, 0, none⟩), v6, .pointer (some ⟨X, 0, none⟩), v8, .pointer (some ⟨Y, 0, none⟩), w10, v11, v12, v13, v14, v15, v16, v17, v18, v19, v20, v21, v22, v23, v24, v25, v26, v27, v28, v29, v30, v31, v32, v33, v34, v35, v36, v37, v38, v39, v40, v41, v42, v43, v44, v45, v46, v47, v48, v49, v50, v51, v52, v53, v54, v55, v56, v57, v58, v59, v60, v61, v62, v63, v64, v65, v66, v67, v68, v69, v70, v71, v72, v73, v74, v75, v76, v77, v78, v79, v80, v81, v82, v83, v84, v85, v86, v87, v88, v89, v90, v91, v92, v93, v94, v95, v96, v97, v98, v99, v100, v101, v102, v103, v104, v105, v106, v107, v108, v109, v110, v111, v112, v113, v114, v115, v116, v117, v118, v119, v120, v121, v122, v123, v124, v125, v126, v127, v128, v129, v130, v131, v132, v133, v134, v135, v136, v137, v138, v139, v140, v141, v142, v143, v144, v145, v146, v147, v148, v149, v150, v151, v152, v153, v154, v155, v156, v157, v158, v159, v160, v161, v162, v163, v164, v165, v166, v167, v168, v169, v170, v171, v172, v173, v174, v175, v176, v177, v178, v179, v180, v181, v182, v183, v184, v185, v186, v187, v188, v189, v190, v191, v192, v193, v194, v195, v196, v197, v198, v199, v200, v201, v202, v203, v204, v205, v206, v207, v208, v209, v210, v211, v212, v213, v214, v215, v216, v217, v218, v219, v220, v221, v222, v223, v224, v225, v226, v227, v228, v229, v230, v231, v232, v233, v234, v235, v236, v237, v238, v239, v240, v241, v242, v243], defers := [] } wx := by
  have H := Aside0.mk h
  have HQ := Lib.hid hQ
  have HXL := Lib.hid h.hxl
  have HI := Lib.hid (h.get_no (.inl hn))
  have d1 : decide (0 ≤ qn) = false := decide_eq_false (by omega)
  have e0 : decide (qk = 0) = false := decide_eq_false hk0
  have e1 : decide (qk = 1) = false := decide_eq_false hk1
  have e2 : decide (qk = 2) = false := decide_eq_false hk2
  have e3 : decide (qk = 3) = false := decide_eq_false hk3
  obtain ⟨y0, y1, y2⟩ := cells72 h.y
  obtain ⟨x0, x1, f0, f1⟩ := h.gx.x.cells
  rw [HXL.out] at x0
  clear h hQ
  dsimp only [pS, pRB, pBlk, pLB, cH, cT, cB, Try.f8, Option.getD]
  go_wp2_with fail
  refine HI.out.mono ?_
  rintro e w3 ⟨rfl, m3⟩
  have M3 := Aside0.mk (m3.below (balloc w3 (.cells #[.int .i64 0, .int .i64 0] 82)))
  have hz := heap_alloc_new w3 (.cells #[.int .i64 0, .int .i64 0] 82)
  have z0 := blk_cell hz 0
  have z1 := blk_cell hz 1
  clear m3 hz x0 x1 f0 f1 y0 y1 y2
  obtain ⟨x0, x1, f0, f1⟩ := M3.out.gx.x.cells
  rw [HXL.out] at x0
  obtain ⟨y0, y1, y2⟩ := cells72 M3.out.y
  go_wp2_with fail
  go_quiet (fail)
  go_wp2_with fail
  exact HQ.out _ _ _ _ _ _ _ _ _ _ _ _ _ _ _ _ _ _ _ _ _ _ _ _ _ _ _ _ _ _ _ _ _ _ _ _ _ _ _ _ _ _ _ _ _ _ _ _ _ _ _ _ _ _ _ _ _ _ _ _ _ _ _ _ _ _ _ _ _ _ _ _ _ _ _ _ _ _ _ _ _ _ _ _ _ _ _ _ _ _ _ _ _ _ _ _ _ _ _ _ _ _ _ _ _ _ _ _ _ _ _ _ _ _ _ _ _ _ _ _ _ _ _ _ _ _ _ _ _ _ _ _ _ ⟨pre, gap, post, vB, _, c0, M3.out.gx.below (bdrewN _ _), by have := H.out.len; omega⟩

set_option linter.unusedVariables false in
set_option maxRecDepth 100000 in
set_option maxHeartbeats 8000000 in
theorem segS4_far {Q : Exit → Act → World → Prop} {v1 v2 v3 v4 v6 v8 v11 v12 v13 v14 v15 v16 v17 v18 v19 v20 v21 v22 v23 v24 v25 v26 v27 v28 v29 v30 v31 v32 v33 v34 v35 v36 v37 v38 v39 v40 v41 v42 v43 v44 v45 v46 v47 v48 v49 v50 v51 v52 v53 v54 v55 v56 v57 v58 v59 v60 v61 v62 v63 v64 v65 v66 v67 v68 v69 v70 v71 v72 v73 v74 v75 v76 v77 v78 v79 v80 v81 v82 v83 v84 v85 v86 v87 v88 v89 v90 v91 v92 v93 v94 v95 v96 v97 v98 v99 v100 v101 v102 v103 v104 v105 v106 v107 v108 v109 v110 v111 v112 v113 v114 v115 v116 v117 v118 v119 v120 v121 v122 v123 v124 v125 v126 v127 v128 v129 v130 v131 v132 v133 v134 v135 v136 v137 v138 v139 v140 v141 v142 v143 v144 v145 v146 v147 v148 v149 v150 v151 v152 v153 v154 v155 v156 v157 v158 v159 v160 v161 v162 v163 v164 v165 v166 v167 v168 v169 v170 v171 v172 v173 v174 v175 v176 v177 v178 v179 v180 v181 v182 v183 v184 v185 v186 v187 v188 v189 v190 v191 v192 v193 v194 v195 v196 v197 v198 v199 v200 v201 v202 v203 v204 v205 v206 v207 v208 v209 v210 v211 v212 v213 v214 v215 v216 v217 v218 v219 v220 v221 v222 v223 v224 v225 v226 v227 v228 v229 v230 v231 v232 v233 v234 v235 v236 v237 v238 v239 v240 v241 v242 v243 : Value} {w wx : World} {G X Y : Nat} {most qn : Int} {qA A0 : Option Addr} {qc c0 ln xl : Nat} {ql pre gap post : List S82} {vB : Value} {qk : Int} {w10 : Value} (h : Rnd w wx G X Y most qk qn ql pre gap post vB qA A0 qc c0 ln xl) (hk0 : ¬ qk = 0) (hk1 : ¬ qk = 1) (hk2 : ¬ qk = 2) (hk3 : ¬ qk = 3) (hn : ¬ qn < 0) (hf : (xl : Int) ≤ qn)
    (hQ : ∀ (u11 u12 u13 u14 u88 u89 u90 u91 u92 u93 u94 u95 u96 u97 u98 u99 u100 u101 u102 u103 u104 u105 u106 u107 u108 u109 u110 u111 u112 u113 u114 u115 u116 u117 u118 u119 u120 u121 u122 u123 u124 u125 u126 u127 u128 u129 u130 u131 u132 u133 u134 u135 u136 u137 u138 u139 u140 u141 u142 u143 u144 u145 u146 u147 u148 u149 u150 u151 u152 u153 u154 u155 u156 u157 u158 u159 u160 u161 u162 u163 u164 u165 u166 u167 u168 u169 u170 u171 u172 u173 u174 u175 u176 u177 u178 u179 u180 u181 u182 u183 u184 u185 u186 u187 u188 u189 u190 u191 u192 u193 u194 u195 u196 u197 u198 u199 u200 u201 u202 u203 u204 u205 u206 u207 u208 u209 u210 u211 u212 u213 u214 u215 : Value) (wy : World), GN w wy G X most (xl + 60) → Q .normal { tmps := #[.int .i64 most, v1, v2, v3, v4, .pointer (some ⟨G, 0, none⟩), v6, .pointer (some ⟨X, 0, none⟩), v8, .pointer (some ⟨Y, 0, none⟩), w10, u11, u12, u13, u14, v15, v16, v17, v18, v19, v20, v21, v22, v23, v24, v25, v26, v27, v28, v29, v30, v31, v32, v33, v34, v35, v36, v37, v38, v39, v40, v41, v42, v43, v44, v45, v46, v47, v48, v49, v50, v51, v52, v53, v54, v55, v56, v57, v58, v59, v60, v61, v62, v63, v64, v65, v66, v67, v68, v69, v70, v71, v72, v73, v74, v75, v76, v77, v78, v79, v80, v81, v82, v83, v84, v85, v86, v87, u88, u89, u90, u91, u92, u93, u94, u95, u96, u97, u98, u99, u100, u101, u102, u103, u104, u105, u106, u107, u108, u109, u110, u111, u112, u113, u114, u115, u116, u117, u118, u119, u120, u121, u122, u123, u124, u125, u126, u127, u128, u129, u130, u131, u132, u133, u134, u135, u136, u137, u138, u139, u140, u141, u142, u143, u144, u145, u146, u147, u148, u149, u150, u151, u152, u153, u154, u155, u156, u157, u158, u159, u160, u161, u162, u163, u164, u165, u166, u167, u168, u169, u170, u171, u172, u173, u174, u175, u176, u177, u178, u179, u180, u181, u182, u183, u184, u185, u186, u187, u188, u189, u190, u191, u192, u193, u194, u195, u196, u197, u198, u199, u200, u201, u202, u203, u204, u205, u206, u207, u208, u209, u210, u211, u212, u213, u214, u215, v216, v217, v218, v219, v220, v221, v222, v223, v224, v225, v226, v227, v228, v229, v230, v231, v232, v233, v234, v235, v236, v237, v238, v239, v240, v241, v242, v243], defers := [] } wy) : (pS Try.f8).wp Try.prog Q { tmps := #[.int .i64 most, v1, v2, v3, v4, .pointer (some ⟨G, 0, none⟩), v6, .pointer (some ⟨X, 0, none⟩), v8, .pointer (some ⟨Y, 0, none⟩), w10, v11, v12, v13, v14, v15, v16, v17, v18, v19, v20, v21, v22, v23, v24, v25, v26, v27, v28, v29, v30, v31, v32, v33, v34, v35, v36, v37, v38, v39, v40, v41, v42, v43, v44, v45, v46, v47, v48, v49, v50, v51, v52, v53, v54, v55, v56, v57, v58, v59, v60, v61, v62, v63, v64, v65, v66, v67, v68, v69, v70, v71, v72, v73, v74, v75, v76, v77, v78, v79, v80, v81, v82, v83, v84, v85, v86, v87, v88, v89, v90, v91, v92, v93, v94, v95, v96, v97, v98, v99, v100, v101, v102, v103, v104, v105, v106, v107, v108, v109, v110, v111, v112, v113, v114, v115, v116, v117, v118, v119, v120, v121, v122, v123, v124, v125, v126, v127, v128, v129, v130, v131, v132, v133, v134, v135, v136, v137, v138, v139, v140, v141, v142, v143, v144, v145, v146, v147, v148, v149, v150, v151, v152, v153, v154, v155, v156, v157, v158, v159, v160, v161, v162, v163, v164, v165, v166, v167, v168, v169, v170, v171, v172, v173, v174, v175, v176, v177, v178, v179, v180, v181, v182, v183, v184, v185, v186, v187, v188, v189, v190, v191, v192, v193, v194, v195, v196, v197, v198, v199, v200, v201, v202, v203, v204, v205, v206, v207, v208, v209, v210, v211, v212, v213, v214, v215, v216, v217, v218, v219, v220, v221, v222, v223, v224, v225, v226, v227, v228, v229, v230, v231, v232, v233, v234, v235, v236, v237, v238, v239, v240, v241, v242, v243], defers := [] } wx := by
  have H := Aside0.mk h
  have HQ := Lib.hid hQ
  have HXL := Lib.hid h.hxl
  have HI := Lib.hid (h.get_no (.inr hf))
  have d1 : decide (0 ≤ qn) = true := decide_eq_true (by omega)
  have d2 : decide (qn < (xl : Int)) = false := decide_eq_false (by omega)
  have e0 : decide (qk = 0) = false := decide_eq_false hk0
  have e1 : decide (qk = 1) = false := decide_eq_false hk1
  have e2 : decide (qk = 2) = false := decide_eq_false hk2
  have e3 : decide (qk = 3) = false := decide_eq_false hk3
  obtain ⟨y0, y1, y2⟩ := cells72 h.y
  obtain ⟨x0, x1, f0, f1⟩ := h.gx.x.cells
  rw [HXL.out] at x0
  clear h hQ
  dsimp only [pS, pRB, pBlk, pLB, cH, cT, cB, Try.f8, Option.getD]
  go_wp2_with fail
  refine HI.out.mono ?_
  rintro e w3 ⟨rfl, m3⟩
  have M3 := Aside0.mk (m3.below (balloc w3 (.cells #[.int .i64 0, .int .i64 0] 82)))
  have hz := heap_alloc_new w3 (.cells #[.int .i64 0, .int .i64 0] 82)
  have z0 := blk_cell hz 0
  have z1 := blk_cell hz 1
  clear m3 hz x0 x1 f0 f1 y0 y1 y2
  obtain ⟨x0, x1, f0, f1⟩ := M3.out.gx.x.cells
  rw [HXL.out] at x0
  obtain ⟨y0, y1, y2⟩ := cells72 M3.out.y
  go_wp2_with fail
  go_quiet (fail)
  go_wp2_with fail
  exact HQ.out _ _ _ _ _ _ _ _ _ _ _ _ _ _ _ _ _ _ _ _ _ _ _ _ _ _ _ _ _ _ _ _ _ _ _ _ _ _ _ _ _ _ _ _ _ _ _ _ _ _ _ _ _ _ _ _ _ _ _ _ _ _ _ _ _ _ _ _ _ _ _ _ _ _ _ _ _ _ _ _ _ _ _ _ _ _ _ _ _ _ _ _ _ _ _ _ _ _ _ _ _ _ _ _ _ _ _ _ _ _ _ _ _ _ _ _ _ _ _ _ _ _ _ _ _ _ _ _ _ _ _ _ _ ⟨pre, gap, post, vB, _, c0, M3.out.gx.below (bdrewN _ _), by have := H.out.len; omega⟩

set_option linter.unusedVariables false in
set_option maxRecDepth 100000 in
set_option maxHeartbeats 8000000 in
theorem segS4_in {Q : Exit → Act → World → Prop} {v1 v2 v3 v4 v6 v8 v11 v12 v13 v14 v15 v16 v17 v18 v19 v20 v21 v22 v23 v24 v25 v26 v27 v28 v29 v30 v31 v32 v33 v34 v35 v36 v37 v38 v39 v40 v41 v42 v43 v44 v45 v46 v47 v48 v49 v50 v51 v52 v53 v54 v55 v56 v57 v58 v59 v60 v61 v62 v63 v64 v65 v66 v67 v68 v69 v70 v71 v72 v73 v74 v75 v76 v77 v78 v79 v80 v81 v82 v83 v84 v85 v86 v87 v88 v89 v90 v91 v92 v93 v94 v95 v96 v97 v98 v99 v100 v101 v102 v103 v104 v105 v106 v107 v108 v109 v110 v111 v112 v113 v114 v115 v116 v117 v118 v119 v120 v121 v122 v123 v124 v125 v126 v127 v128 v129 v130 v131 v132 v133 v134 v135 v136 v137 v138 v139 v140 v141 v142 v143 v144 v145 v146 v147 v148 v149 v150 v151 v152 v153 v154 v155 v156 v157 v158 v159 v160 v161 v162 v163 v164 v165 v166 v167 v168 v169 v170 v171 v172 v173 v174 v175 v176 v177 v178 v179 v180 v181 v182 v183 v184 v185 v186 v187 v188 v189 v190 v191 v192 v193 v194 v195 v196 v197 v198 v199 v200 v201 v202 v203 v204 v205 v206 v207 v208 v209 v210 v211 v212 v213 v214 v215 v216 v217 v218 v219 v220 v221 v222 v223 v224 v225 v226 v227 v228 v229 v230 v231 v232 v233 v234 v235 v236 v237 v238 v239 v240 v241 v242 v243 : Value} {w wx : World} {G X Y : Nat} {most qn : Int} {qA A0 : Option Addr} {qc c0 ln xl : Nat} {ql pre gap post : List S82} {vB : Value} {qk : Int} {w10 : Value} (h : Rnd w wx G X Y most qk qn ql pre gap post vB qA A0 qc c0 ln xl) (hk0 : ¬ qk = 0) (hk1 : ¬ qk = 1) (hk2 : ¬ qk = 2) (hk3 : ¬ qk = 3) (i : Nat) (hi : qn = i) (hin : i < xl)
    (hQ : ∀ (u11 u12 u13 u14 u88 u89 u90 u91 u92 u93 u94 u95 u96 u97 u98 u99 u100 u101 u102 u103 u104 u105 u106 u107 u108 u109 u110 u111 u112 u113 u114 u115 u116 u117 u118 u119 u120 u121 u122 u123 u124 u125 u126 u127 u128 u129 u130 u131 u132 u133 u134 u135 u136 u137 u138 u139 u140 u141 u142 u143 u144 u145 u146 u147 u148 u149 u150 u151 u152 u153 u154 u155 u156 u157 u158 u159 u160 u161 u162 u163 u164 u165 u166 u167 u168 u169 u170 u171 u172 u173 u174 u175 u176 u177 u178 u179 u180 u181 u182 u183 u184 u185 u186 u187 u188 u189 u190 u191 u192 u193 u194 u195 u196 u197 u198 u199 u200 u201 u202 u203 u204 u205 u206 u207 u208 u209 u210 u211 u212 u213 u214 u215 : Value) (wy : World), GN w wy G X most (xl + 60) → Q .normal { tmps := #[.int .i64 most, v1, v2, v3, v4, .pointer (some ⟨G, 0, none⟩), v6, .pointer (some ⟨X, 0, none⟩), v8, .pointer (some ⟨Y, 0, none⟩), w10, u11, u12, u13, u14, v15, v16, v17, v18, v19, v20, v21, v22, v23, v24, v25, v26, v27, v28, v29, v30, v31, v32, v33, v34, v35, v36, v37, v38, v39, v40, v41, v42, v43, v44, v45, v46, v47, v48, v49, v50, v51, v52, v53, v54, v55, v56, v57, v58, v59, v60, v61, v62, v63, v64, v65, v66, v67, v68, v69, v70, v71, v72, v73, v74, v75, v76, v77, v78, v79, v80, v81, v82, v83, v84, v85, v86, v87, u88, u89, u90, u91, u92, u93, u94, u95, u96, u97, u98, u99, u100, u101, u102, u103, u104, u105, u106, u107, u108, u109, u110, u111, u112, u113, u114, u115, u116, u117, u118, u119, u120, u121, u122, u123, u124, u125, u126, u127, u128, u129, u130, u131, u132, u133, u134, u135, u136, u137, u138, u139, u140, u141, u142, u143, u144, u145, u146, u147, u148, u149, u150, u151, u152, u153, u154, u155, u156, u157, u158, u159, u160, u161, u162, u163, u164, u165, u166, u167, u168, u169, u170, u171, u172, u173, u174, u175, u176, u177, u178, u179, u180, u181, u182, u183, u184, u185, u186, u187, u188, u189, u190, u191, u192, u193, u194, u195, u196, u197, u198, u199, u200, u201, u202, u203, u204, u205, u206, u207, u208, u209, u210, u211, u212, u213, u214, u215, v216, v217, v218, v219, v220, v221, v222, v223, v224, v225, v226, v227, v228, v229, v230, v231, v232, v233, v234, v235, v236, v237, v238, v239, v240, v241, v242, v243], defers := [] } wy) : (pS Try.f8).wp Try.prog Q { tmps := #[.int .i64 most, v1, v2, v3, v4, .pointer (some ⟨G, 0, none⟩), v6, .pointer (some ⟨X, 0, none⟩), v8, .pointer (some ⟨Y, 0, none⟩), w10, v11, v12, v13, v14, v15, v16, v17, v18, v19, v20, v21, v22, v23, v24, v25, v26, v27, v28, v29, v30, v31, v32, v33, v34, v35, v36, v37, v38, v39, v40, v41, v42, v43, v44, v45, v46, v47, v48, v49, v50, v51, v52, v53, v54, v55, v56, v57, v58, v59, v60, v61, v62, v63, v64, v65, v66, v67, v68, v69, v70, v71, v72, v73, v74, v75, v76, v77, v78, v79, v80, v81, v82, v83, v84, v85, v86, v87, v88, v89, v90, v91, v92, v93, v94, v95, v96, v97, v98, v99, v100, v101, v102, v103, v104, v105, v106, v107, v108, v109, v110, v111, v112, v113, v114, v115, v116, v117, v118, v119, v120, v121, v122, v123, v124, v125, v126, v127, v128, v129, v130, v131, v132, v133, v134, v135, v136, v137, v138, v139, v140, v141, v142, v143, v144, v145, v146, v147, v148, v149, v150, v151, v152, v153, v154, v155, v156, v157, v158, v159, v160, v161, v162, v163, v164, v165, v166, v167, v168, v169, v170, v171, v172, v173, v174, v175, v176, v177, v178, v179, v180, v181, v182, v183, v184, v185, v186, v187, v188, v189, v190, v191, v192, v193, v194, v195, v196, v197, v198, v199, v200, v201, v202, v203, v204, v205, v206, v207, v208, v209, v210, v211, v212, v213, v214, v215, v216, v217, v218, v219, v220, v221, v222, v223, v224, v225, v226, v227, v228, v229, v230, v231, v232, v233, v234, v235, v236, v237, v238, v239, v240, v241, v242, v243], defers := [] } wx := by
  have H := Aside0.mk h
  have HQ := Lib.hid hQ
  have HXL := Lib.hid h.hxl
  subst hi
  obtain ⟨za, hza⟩ : ∃ z, (rd_T82 (pre ++ post) i).f0 = z := ⟨_, rfl⟩
  obtain ⟨zb, hzb⟩ : ∃ z, (rd_T82 (pre ++ post) i).f1 = z := ⟨_, rfl⟩
  have HI := Lib.hid (h.get hin za zb hza hzb)
  have HA := Lib.hid hza
  have HB := Lib.hid hzb
  clear hza hzb
  have d1 : decide (0 ≤ (i : Int)) = true := decide_eq_true (by omega)
  have d2 : decide ((i : Int) < (xl : Int)) = true := decide_eq_true (by omega)
  have d3 : decide (i < xl) = true := decide_eq_true hin
  have e0 : decide (qk = 0) = false := decide_eq_false hk0
  have e1 : decide (qk = 1) = false := decide_eq_false hk1
  have e2 : decide (qk = 2) = false := decide_eq_false hk2
  have e3 : decide (qk = 3) = false := decide_eq_false hk3
  obtain ⟨y0, y1, y2⟩ := cells72 h.y
  obtain ⟨x0, x1, f0, f1⟩ := h.gx.x.cells
  rw [HXL.out] at x0
  clear h hQ
  dsimp only [pS, pRB, pBlk, pLB, cH, cT, cB, Try.f8, Option.getD]
  go_wp2_with fail
  refine HI.out.mono ?_
  rintro e w3 ⟨rfl, m3⟩
  have M3 := Aside0.mk (m3.below (balloc w3 (.cells #[.int .i64 za, .int .i64 zb] 82)))
  have hz := heap_alloc_new w3 (.cells #[.int .i64 za, .int .i64 zb] 82)
  have z0 := blk_cell hz 0
  have z1 := blk_cell hz 1
  clear m3 hz x0 x1 f0 f1 y0 y1 y2
  obtain ⟨x0, x1, f0, f1⟩ := M3.out.gx.x.cells
  rw [HXL.out] at x0
  obtain ⟨y0, y1, y2⟩ := cells72 M3.out.y
  obtain ⟨ad, hA0, ha0, ha1⟩ := at_T82 M3.out.gx.x.src.C i (by omega) (by rw [HXL.out]; omega)
  rw [HA.out, Int.toNat_natCast] at ha0
  rw [HB.out, Int.toNat_natCast] at ha1
  subst hA0
  go_wp2_with fail
  go_quiet (fail)
  go_wp2_with fail
  exact HQ.out _ _ _ _ _ _ _ _ _ _ _ _ _ _ _ _ _ _ _ _ _ _ _ _ _ _ _ _ _ _ _ _ _ _ _ _ _ _ _ _ _ _ _ _ _ _ _ _ _ _ _ _ _ _ _ _ _ _ _ _ _ _ _ _ _ _ _ _ _ _ _ _ _ _ _ _ _ _ _ _ _ _ _ _ _ _ _ _ _ _ _ _ _ _ _ _ _ _ _ _ _ _ _ _ _ _ _ _ _ _ _ _ _ _ _ _ _ _ _ _ _ _ _ _ _ _ _ _ _ _ _ _ _ ⟨pre, gap, post, vB, _, c0, M3.out.gx.below (bdrewN _ _), by have := H.out.len; omega⟩

end Go.Proofs.Ytopmenioioljoaa.GapW

/-
  THE LAW GapDoes, ITS PIECES: the round's check.
-/
namespace Go.Proofs.Ytopmenioioljoaa.GapW
open Go.RowKit Go.Proofs.Ytopmenioioljoaa.Base Go.Proofs.YtopmenioioljoaaW.PrintWords Go.Proofs.YtopmenioioljoaaW.PrintLast Go.Proofs.YtopmenioioljoaaW.PrintMore Go.Proofs.Ytopmenioioljoaa.PGapDoes Go.Proofs.Ytopmenioioljoaa.CountW

set_option linter.unusedVariables false in
set_option maxRecDepth 100000 in
set_option maxHeartbeats 8000000 in
theorem segC {Q : Exit → Act → World → Prop} {v1 v2 v3 v4 v6 v8 v10 v11 v12 v13 v14 v15 v16 v17 v18 v19 v20 v21 v22 v23 v24 v25 v26 v27 v28 v29 v30 v31 v32 v33 v34 v35 v36 v37 v38 v39 v40 v41 v42 v43 v44 v45 v46 v47 v48 v49 v50 v51 v52 v53 v54 v55 v56 v57 v58 v59 v60 v61 v62 v63 v64 v65 v66 v67 v68 v69 v70 v71 v72 v73 v74 v75 v76 v77 v78 v79 v80 v81 v82 v83 v84 v85 v86 v87 v88 v89 v90 v91 v92 v93 v94 v95 v96 v97 v98 v99 v100 v101 v102 v103 v104 v105 v106 v107 v108 v109 v110 v111 v112 v113 v114 v115 v116 v117 v118 v119 v120 v121 v122 v123 v124 v125 v126 v127 v128 v129 v130 v131 v132 v133 v134 v135 v136 v137 v138 v139 v140 v141 v142 v143 v144 v145 v146 v147 v148 v149 v150 v151 v152 v153 v154 v155 v156 v157 v158 v159 v160 v161 v162 v163 v164 v165 v166 v167 v168 v169 v170 v171 v172 v173 v174 v175 v176 v177 v178 v179 v180 v181 v182 v183 v184 v185 v186 v187 v188 v189 v190 v191 v192 v193 v194 v195 v196 v197 v198 v199 v200 v201 v202 v203 v204 v205 v206 v207 v208 v209 v210 v211 v212 v213 v214 v215 v216 v217 v218 v219 v220 v221 v222 v223 v224 v225 v226 v227 v228 v229 v230 v231 v232 v233 v234 v235 v236 v237 v238 v239 v240 v241 v242 v243 : Value} {w wx : World} {G X Y : Nat} {most : Int} {n : Nat} (h : GN w wx G X most n) (hn : n ≤ 1000000)
    (hQ : ∀ (u216 u217 u218 u219 u220 u221 u222 u223 u224 u225 u226 u227 u228 u229 u230 u231 u232 u233 u234 u235 u236 u237 u238 u239 u240 u241 u242 u243 : Value) (wy : World), GN w wy G X most n → Q .normal { tmps := #[.int .i64 most, v1, v2, v3, v4, .pointer (some ⟨G, 0, none⟩), v6, .pointer (some ⟨X, 0, none⟩), v8, .pointer (some ⟨Y, 0, none⟩), v10, v11, v12, v13, v14, v15, v16, v17, v18, v19, v20, v21, v22, v23, v24, v25, v26, v27, v28, v29, v30, v31, v32, v33, v34, v35, v36, v37, v38, v39, v40, v41, v42, v43, v44, v45, v46, v47, v48, v49, v50, v51, v52, v53, v54, v55, v56, v57, v58, v59, v60, v61, v62, v63, v64, v65, v66, v67, v68, v69, v70, v71, v72, v73, v74, v75, v76, v77, v78, v79, v80, v81, v82, v83, v84, v85, v86, v87, v88, v89, v90, v91, v92, v93, v94, v95, v96, v97, v98, v99, v100, v101, v102, v103, v104, v105, v106, v107, v108, v109, v110, v111, v112, v113, v114, v115, v116, v117, v118, v119, v120, v121, v122, v123, v124, v125, v126, v127, v128, v129, v130, v131, v132, v133, v134, v135, v136, v137, v138, v139, v140, v141, v142, v143, v144, v145, v146, v147, v148, v149, v150, v151, v152, v153, v154, v155, v156, v157, v158, v159, v160, v161, v162, v163, v164, v165, v166, v167, v168, v169, v170, v171, v172, v173, v174, v175, v176, v177, v178, v179, v180, v181, v182, v183, v184, v185, v186, v187, v188, v189, v190, v191, v192, v193, v194, v195, v196, v197, v198, v199, v200, v201, v202, v203, v204, v205, v206, v207, v208, v209, v210, v211, v212, v213, v214, v215, u216, u217, u218, u219, u220, u221, u222, u223, u224, u225, u226, u227, u228, u229, u230, u231, u232, u233, u234, u235, u236, u237, u238, u239, u240, u241, u242, u243], defers := [] } wy) : (pC Try.f8).wp Try.prog Q { tmps := #[.int .i64 most, v1, v2, v3, v4, .pointer (some ⟨G, 0, none⟩), v6, .pointer (some ⟨X, 0, none⟩), v8, .pointer (some ⟨Y, 0, none⟩), v10, v11, v12, v13, v14, v15, v16, v17, v18, v19, v20, v21, v22, v23, v24, v25, v26, v27, v28, v29, v30, v31, v32, v33, v34, v35, v36, v37, v38, v39, v40, v41, v42, v43, v44, v45, v46, v47, v48, v49, v50, v51, v52, v53, v54, v55, v56, v57, v58, v59, v60, v61, v62, v63, v64, v65, v66, v67, v68, v69, v70, v71, v72, v73, v74, v75, v76, v77, v78, v79, v80, v81, v82, v83, v84, v85, v86, v87, v88, v89, v90, v91, v92, v93, v94, v95, v96, v97, v98, v99, v100, v101, v102, v103, v104, v105, v106, v107, v108, v109, v110, v111, v112, v113, v114, v115, v116, v117, v118, v119, v120, v121, v122, v123, v124, v125, v126, v127, v128, v129, v130, v131, v132, v133, v134, v135, v136, v137, v138, v139, v140, v141, v142, v143, v144, v145, v146, v147, v148, v149, v150, v151, v152, v153, v154, v155, v156, v157, v158, v159, v160, v161, v162, v163, v164, v165, v166, v167, v168, v169, v170, v171, v172, v173, v174, v175, v176, v177, v178, v179, v180, v181, v182, v183, v184, v185, v186, v187, v188, v189, v190, v191, v192, v193, v194, v195, v196, v197, v198, v199, v200, v201, v202, v203, v204, v205, v206, v207, v208, v209, v210, v211, v212, v213, v214, v215, v216, v217, v218, v219, v220, v221, v222, v223, v224, v225, v226, v227, v228, v229, v230, v231, v232, v233, v234, v235, v236, v237, v238, v239, v240, v241, v242, v243], defers := [] } wx := by
  obtain ⟨pre, gap, post, vB, A0, c0, h0, hl⟩ := h
  have hd := h0.below (bdrew wx)
  have HQ := Lib.hid hQ
  have hlen : (pre ++ post).length = pre.length + post.length := List.length_append
  obtain ⟨xl, hxl⟩ : ∃ xl, (pre ++ post).length = xl := ⟨_, rfl⟩
  have HX1 := Lib.hid (show xl ≤ 1000000 by omega)
  have HL53 := Lib.hid (glen hd.g)
  rw [← hlen, hxl] at HL53
  obtain ⟨x0, x1, f0, f1⟩ := h0.x.cells
  have HXL := Lib.hid hxl
  rw [hxl] at x0
  have HD := Aside0.mk h0
  have HLL := Lib.hid hl
  clear h0 hd hQ hlen hxl hl hn
  dsimp only [pC, pRB, pBlk, pLB, cH, cT, cB, Try.f8, Option.getD]
  go_wp2_with fail
  go_region_held3 (fun w' => w'.cell? ⟨X, 0, none⟩ = some (.slice A0 xl c0) ∧ w'.cell? ⟨X, 1, none⟩ = some (.int .i64 (pre.length : Int))) (first | go_keep)
    (first
      | (go_at_call 53; refine HL53.out.mono ?_; rintro e w3 ⟨rfl, m, rfl⟩)
      | (go_at_call 54; refine (at54 G vB _ _ _ _ (HD.out.below (bdrewN _ (1 + m))).g.blk).mono ?_; rintro e w4 ⟨rfl, rfl⟩)
      | (go_at_call 55; refine (gall (HD.out.below (bdrewN _ (1 + m))).g).mono ?_; rintro e w5 ⟨v5, rfl, hv5, hb5⟩; obtain ⟨A5, c5, rfl, hs5⟩ := hv5.src; have z0 := ((HD.out.below (bdrewN _ (1 + m))).below hb5).x.cells.1; have z1 := ((HD.out.below (bdrewN _ (1 + m))).below hb5).x.cells.2.1; rw [HXL.out] at z0 ⊢)
      | (go_at_call 47; refine (rsame_n HXL.out hs5 ((HD.out.below (bdrewN _ (1 + m))).below hb5).x.src HX1.out).mono ?_; rintro e w6 ⟨rfl, hb6⟩; have z0 := (((HD.out.below (bdrewN _ (1 + m))).below hb5).below hb6).x.cells.1; have z1 := (((HD.out.below (bdrewN _ (1 + m))).below hb5).below hb6).x.cells.2.1; rw [HXL.out] at z0)
      | (go_at_call 57; refine (gline (((HD.out.below (bdrewN _ (1 + m))).below hb5).below hb6).g).mono ?_; rintro e w7 ⟨v7, rfl, hv7, hb7⟩; obtain ⟨A7, c7, rfl, hs7⟩ := hv7.src; have z0 := ((((HD.out.below (bdrewN _ (1 + m))).below hb5).below hb6).below hb7).x.cells.1; have z1 := ((((HD.out.below (bdrewN _ (1 + m))).below hb5).below hb6).below hb7).x.cells.2.1; rw [HXL.out] at z0 ⊢)
      | (go_at_call 56; refine (rsameLine_n _ HXL.out hs7 ((((HD.out.below (bdrewN _ (1 + m))).below hb5).below hb6).below hb7).x.src HX1.out).mono ?_; rintro e w8 ⟨rfl, hb8⟩; have z0 := (((((HD.out.below (bdrewN _ (1 + m))).below hb5).below hb6).below hb7).below hb8).x.cells.1; have z1 := (((((HD.out.below (bdrewN _ (1 + m))).below hb5).below hb6).below hb7).below hb8).x.cells.2.1; rw [HXL.out] at z0))
  go_wp2_with fail
  exact HQ.out _ _ _ _ _ _ _ _ _ _ _ _ _ _ _ _ _ _ _ _ _ _ _ _ _ _ _ _ _ ⟨pre, gap, post, vB, A0, c0, ((((HD.out.below (bdrewN _ (1 + m))).below hb5).below hb6).below hb7).below hb8, HLL.out⟩

end Go.Proofs.Ytopmenioioljoaa.GapW
