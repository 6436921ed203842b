/-
  THE GAP LAWS: texts GapRound, GapDoesW, GapArg in one.
-/
import Derived.Test.YtopmenioioljoaaGg5
import Derived.Test.YtopmenioioljoaaGg6
import Derived.Test.YtopmenioioljoaaGg4
/-
  THE LAW GapDoes, ITS PIECES: the whole round.
-/
namespace Go.Proofs.Ytopmenioioljoaa.GapW
open Go.RowKit Go.Proofs.Ytopmenioioljoaa.Base Go.Proofs.YtopmenioioljoaaW.PrintWords Go.Proofs.YtopmenioioljoaaW.PrintLast Go.Proofs.YtopmenioioljoaaW.PrintMore Go.Proofs.Ytopmenioioljoaa.PGapDoes Go.Proofs.Ytopmenioioljoaa.CountW

def p12 (f : Func) : Code := cH (pRB f)
def p13 (f : Func) : Code := cH (cT (pRB f))
def p15 (f : Func) : Code := cH (cT (cT (pRB f)))
theorem eRB : pRB Try.f8 = .seq (p12 Try.f8) (.seq (p13 Try.f8) (.seq (p15 Try.f8) (.seq (pW Try.f8) (.seq (pS Try.f8) (pC Try.f8))))) := by kernel_rfl
theorem eBlk : pBlk Try.f8 = .block 1 (pRB Try.f8) := by kernel_rfl

set_option linter.unusedVariables false in
set_option maxRecDepth 100000 in
set_option maxHeartbeats 8000000 in
theorem seg12 {Q : Exit → Act → World → Prop} {v2 v3 v4 v6 v9 v10 v11 v12 v13 v14 v15 v16 v17 v18 v19 v20 v21 v22 v23 v24 v25 v26 v27 v28 v29 v30 v31 v32 v33 v34 v35 v36 v37 v38 v39 v40 v41 v42 v43 v44 v45 v46 v47 v48 v49 v50 v51 v52 v53 v54 v55 v56 v57 v58 v59 v60 v61 v62 v63 v64 v65 v66 v67 v68 v69 v70 v71 v72 v73 v74 v75 v76 v77 v78 v79 v80 v81 v82 v83 v84 v85 v86 v87 v88 v89 v90 v91 v92 v93 v94 v95 v96 v97 v98 v99 v100 v101 v102 v103 v104 v105 v106 v107 v108 v109 v110 v111 v112 v113 v114 v115 v116 v117 v118 v119 v120 v121 v122 v123 v124 v125 v126 v127 v128 v129 v130 v131 v132 v133 v134 v135 v136 v137 v138 v139 v140 v141 v142 v143 v144 v145 v146 v147 v148 v149 v150 v151 v152 v153 v154 v155 v156 v157 v158 v159 v160 v161 v162 v163 v164 v165 v166 v167 v168 v169 v170 v171 v172 v173 v174 v175 v176 v177 v178 v179 v180 v181 v182 v183 v184 v185 v186 v187 v188 v189 v190 v191 v192 v193 v194 v195 v196 v197 v198 v199 v200 v201 v202 v203 v204 v205 v206 v207 v208 v209 v210 v211 v212 v213 v214 v215 v216 v217 v218 v219 v220 v221 v222 v223 v224 v225 v226 v227 v228 v229 v230 v231 v232 v233 v234 v235 v236 v237 v238 v239 v240 v241 v242 v243 : Value} {wr : World} {G X j nq c ln qc : Nat} {most qk qn : Int} {ad : Addr} {qA : Option Addr} (hj : j < nq) (hjn : nq ≤ 9223372036854775807) (h0 : wr.cell? (ad.add (j * 3)) = some (.int .i64 qk)) (h1 : wr.cell? ⟨(ad.add (j * 3)).block, (ad.add (j * 3)).off + 1, none⟩ = some (.int .i64 qn)) (h2 : wr.cell? ⟨(ad.add (j * 3)).block, (ad.add (j * 3)).off + 2, none⟩ = some (.slice qA ln qc))
    (hQ : ∀ (u50 u51 u52 u53 : Value), Q .normal { tmps := #[.int .i64 most, .slice (some ad) nq c, v2, v3, v4, .pointer (some ⟨G, 0, none⟩), v6, .pointer (some ⟨X, 0, none⟩), .int .i64 (j : Int), .pointer (some ⟨wr.heap.size, 0, none⟩), v10, v11, v12, v13, v14, v15, v16, v17, v18, v19, v20, v21, v22, v23, v24, v25, v26, v27, v28, v29, v30, v31, v32, v33, v34, v35, v36, v37, v38, v39, v40, v41, v42, v43, v44, v45, v46, v47, v48, v49, u50, u51, u52, u53, v54, v55, v56, v57, v58, v59, v60, v61, v62, v63, v64, v65, v66, v67, v68, v69, v70, v71, v72, v73, v74, v75, v76, v77, v78, v79, v80, v81, v82, v83, v84, v85, v86, v87, v88, v89, v90, v91, v92, v93, v94, v95, v96, v97, v98, v99, v100, v101, v102, v103, v104, v105, v106, v107, v108, v109, v110, v111, v112, v113, v114, v115, v116, v117, v118, v119, v120, v121, v122, v123, v124, v125, v126, v127, v128, v129, v130, v131, v132, v133, v134, v135, v136, v137, v138, v139, v140, v141, v142, v143, v144, v145, v146, v147, v148, v149, v150, v151, v152, v153, v154, v155, v156, v157, v158, v159, v160, v161, v162, v163, v164, v165, v166, v167, v168, v169, v170, v171, v172, v173, v174, v175, v176, v177, v178, v179, v180, v181, v182, v183, v184, v185, v186, v187, v188, v189, v190, v191, v192, v193, v194, v195, v196, v197, v198, v199, v200, v201, v202, v203, v204, v205, v206, v207, v208, v209, v210, v211, v212, v213, v214, v215, v216, v217, v218, v219, v220, v221, v222, v223, v224, v225, v226, v227, v228, v229, v230, v231, v232, v233, v234, v235, v236, v237, v238, v239, v240, v241, v242, v243], defers := [] } (wr.alloc (.cells #[.int .i64 qk, .int .i64 qn, .slice qA ln qc] 72))) : (p12 Try.f8).wp Try.prog Q { tmps := #[.int .i64 most, .slice (some ad) nq c, v2, v3, v4, .pointer (some ⟨G, 0, none⟩), v6, .pointer (some ⟨X, 0, none⟩), .int .i64 (j : Int), v9, v10, v11, v12, v13, v14, v15, v16, v17, v18, v19, v20, v21, v22, v23, v24, v25, v26, v27, v28, v29, v30, v31, v32, v33, v34, v35, v36, v37, v38, v39, v40, v41, v42, v43, v44, v45, v46, v47, v48, v49, v50, v51, v52, v53, v54, v55, v56, v57, v58, v59, v60, v61, v62, v63, v64, v65, v66, v67, v68, v69, v70, v71, v72, v73, v74, v75, v76, v77, v78, v79, v80, v81, v82, v83, v84, v85, v86, v87, v88, v89, v90, v91, v92, v93, v94, v95, v96, v97, v98, v99, v100, v101, v102, v103, v104, v105, v106, v107, v108, v109, v110, v111, v112, v113, v114, v115, v116, v117, v118, v119, v120, v121, v122, v123, v124, v125, v126, v127, v128, v129, v130, v131, v132, v133, v134, v135, v136, v137, v138, v139, v140, v141, v142, v143, v144, v145, v146, v147, v148, v149, v150, v151, v152, v153, v154, v155, v156, v157, v158, v159, v160, v161, v162, v163, v164, v165, v166, v167, v168, v169, v170, v171, v172, v173, v174, v175, v176, v177, v178, v179, v180, v181, v182, v183, v184, v185, v186, v187, v188, v189, v190, v191, v192, v193, v194, v195, v196, v197, v198, v199, v200, v201, v202, v203, v204, v205, v206, v207, v208, v209, v210, v211, v212, v213, v214, v215, v216, v217, v218, v219, v220, v221, v222, v223, v224, v225, v226, v227, v228, v229, v230, v231, v232, v233, v234, v235, v236, v237, v238, v239, v240, v241, v242, v243], defers := [] } wr := by
  have HQ := Lib.hid hQ
  clear hQ
  dsimp only [p12, p13, p15, pRB, pBlk, pLB, cH, cT, cB, Try.f8, Option.getD]
  go_wp2_with fail
  exact HQ.out _ _ _ _

set_option linter.unusedVariables false in
set_option maxRecDepth 100000 in
set_option maxHeartbeats 8000000 in
theorem seg13 {Q : Exit → Act → World → Prop} {v1 v2 v3 v4 v6 v8 v10 v11 v12 v13 v14 v15 v16 v17 v18 v19 v20 v21 v22 v23 v24 v25 v26 v27 v28 v29 v30 v31 v32 v33 v34 v35 v36 v37 v38 v39 v40 v41 v42 v43 v44 v45 v46 v47 v48 v49 v50 v51 v52 v53 v54 v55 v56 v57 v58 v59 v60 v61 v62 v63 v64 v65 v66 v67 v68 v69 v70 v71 v72 v73 v74 v75 v76 v77 v78 v79 v80 v81 v82 v83 v84 v85 v86 v87 v88 v89 v90 v91 v92 v93 v94 v95 v96 v97 v98 v99 v100 v101 v102 v103 v104 v105 v106 v107 v108 v109 v110 v111 v112 v113 v114 v115 v116 v117 v118 v119 v120 v121 v122 v123 v124 v125 v126 v127 v128 v129 v130 v131 v132 v133 v134 v135 v136 v137 v138 v139 v140 v141 v142 v143 v144 v145 v146 v147 v148 v149 v150 v151 v152 v153 v154 v155 v156 v157 v158 v159 v160 v161 v162 v163 v164 v165 v166 v167 v168 v169 v170 v171 v172 v173 v174 v175 v176 v177 v178 v179 v180 v181 v182 v183 v184 v185 v186 v187 v188 v189 v190 v191 v192 v193 v194 v195 v196 v197 v198 v199 v200 v201 v202 v203 v204 v205 v206 v207 v208 v209 v210 v211 v212 v213 v214 v215 v216 v217 v218 v219 v220 v221 v222 v223 v224 v225 v226 v227 v228 v229 v230 v231 v232 v233 v234 v235 v236 v237 v238 v239 v240 v241 v242 v243 : Value} {w wx : World} {G X Y : Nat} {most qn : Int} {qA A0 : Option Addr} {qc c0 ln xl : Nat} {ql pre gap post : List S82} {vB : Value} {qk : Int} (h : Rnd w wx G X Y most qk qn ql pre gap post vB qA A0 qc c0 ln xl)
    (hQ : ∀ (u54 u55 u56 u57 : Value), Q .normal { tmps := #[.int .i64 most, v1, v2, v3, v4, .pointer (some ⟨G, 0, none⟩), v6, .pointer (some ⟨X, 0, none⟩), v8, .pointer (some ⟨Y, 0, none⟩), v10, v11, v12, v13, v14, v15, v16, v17, v18, v19, v20, v21, v22, v23, v24, v25, v26, v27, v28, v29, v30, v31, v32, v33, v34, v35, v36, v37, v38, v39, v40, v41, v42, v43, v44, v45, v46, v47, v48, v49, v50, v51, v52, v53, u54, u55, u56, u57, v58, v59, v60, v61, v62, v63, v64, v65, v66, v67, v68, v69, v70, v71, v72, v73, v74, v75, v76, v77, v78, v79, v80, v81, v82, v83, v84, v85, v86, v87, v88, v89, v90, v91, v92, v93, v94, v95, v96, v97, v98, v99, v100, v101, v102, v103, v104, v105, v106, v107, v108, v109, v110, v111, v112, v113, v114, v115, v116, v117, v118, v119, v120, v121, v122, v123, v124, v125, v126, v127, v128, v129, v130, v131, v132, v133, v134, v135, v136, v137, v138, v139, v140, v141, v142, v143, v144, v145, v146, v147, v148, v149, v150, v151, v152, v153, v154, v155, v156, v157, v158, v159, v160, v161, v162, v163, v164, v165, v166, v167, v168, v169, v170, v171, v172, v173, v174, v175, v176, v177, v178, v179, v180, v181, v182, v183, v184, v185, v186, v187, v188, v189, v190, v191, v192, v193, v194, v195, v196, v197, v198, v199, v200, v201, v202, v203, v204, v205, v206, v207, v208, v209, v210, v211, v212, v213, v214, v215, v216, v217, v218, v219, v220, v221, v222, v223, v224, v225, v226, v227, v228, v229, v230, v231, v232, v233, v234, v235, v236, v237, v238, v239, v240, v241, v242, v243], defers := [] } wx) : (p13 Try.f8).wp Try.prog Q { tmps := #[.int .i64 most, v1, v2, v3, v4, .pointer (some ⟨G, 0, none⟩), v6, .pointer (some ⟨X, 0, none⟩), v8, .pointer (some ⟨Y, 0, none⟩), v10, v11, v12, v13, v14, v15, v16, v17, v18, v19, v20, v21, v22, v23, v24, v25, v26, v27, v28, v29, v30, v31, v32, v33, v34, v35, v36, v37, v38, v39, v40, v41, v42, v43, v44, v45, v46, v47, v48, v49, v50, v51, v52, v53, v54, v55, v56, v57, v58, v59, v60, v61, v62, v63, v64, v65, v66, v67, v68, v69, v70, v71, v72, v73, v74, v75, v76, v77, v78, v79, v80, v81, v82, v83, v84, v85, v86, v87, v88, v89, v90, v91, v92, v93, v94, v95, v96, v97, v98, v99, v100, v101, v102, v103, v104, v105, v106, v107, v108, v109, v110, v111, v112, v113, v114, v115, v116, v117, v118, v119, v120, v121, v122, v123, v124, v125, v126, v127, v128, v129, v130, v131, v132, v133, v134, v135, v136, v137, v138, v139, v140, v141, v142, v143, v144, v145, v146, v147, v148, v149, v150, v151, v152, v153, v154, v155, v156, v157, v158, v159, v160, v161, v162, v163, v164, v165, v166, v167, v168, v169, v170, v171, v172, v173, v174, v175, v176, v177, v178, v179, v180, v181, v182, v183, v184, v185, v186, v187, v188, v189, v190, v191, v192, v193, v194, v195, v196, v197, v198, v199, v200, v201, v202, v203, v204, v205, v206, v207, v208, v209, v210, v211, v212, v213, v214, v215, v216, v217, v218, v219, v220, v221, v222, v223, v224, v225, v226, v227, v228, v229, v230, v231, v232, v233, v234, v235, v236, v237, v238, v239, v240, v241, v242, v243], defers := [] } wx := by
  have HQ := Lib.hid hQ
  obtain ⟨y0, y1, y2⟩ := cells72 h.y
  have h6 := h.l60
  have d1 : decide (60 < ln) = false := decide_eq_false (by omega)
  have d2 : decide ((60 : Int) < (ln : Int)) = false := decide_eq_false (by omega)
  clear hQ h6 h
  dsimp only [p12, p13, p15, pRB, pBlk, pLB, cH, cT, cB, Try.f8, Option.getD]
  go_wp2_with fail
  exact HQ.out _ _ _ _

set_option linter.unusedVariables false in
set_option maxRecDepth 100000 in
set_option maxHeartbeats 8000000 in
theorem seg15 {Q : Exit → Act → World → Prop} {v1 v2 v3 v4 v6 v8 v10 v11 v12 v13 v14 v15 v16 v17 v18 v19 v20 v21 v22 v23 v24 v25 v26 v27 v28 v29 v30 v31 v32 v33 v34 v35 v36 v37 v38 v39 v40 v41 v42 v43 v44 v45 v46 v47 v48 v49 v50 v51 v52 v53 v54 v55 v56 v57 v58 v59 v60 v61 v62 v63 v64 v65 v66 v67 v68 v69 v70 v71 v72 v73 v74 v75 v76 v77 v78 v79 v80 v81 v82 v83 v84 v85 v86 v87 v88 v89 v90 v91 v92 v93 v94 v95 v96 v97 v98 v99 v100 v101 v102 v103 v104 v105 v106 v107 v108 v109 v110 v111 v112 v113 v114 v115 v116 v117 v118 v119 v120 v121 v122 v123 v124 v125 v126 v127 v128 v129 v130 v131 v132 v133 v134 v135 v136 v137 v138 v139 v140 v141 v142 v143 v144 v145 v146 v147 v148 v149 v150 v151 v152 v153 v154 v155 v156 v157 v158 v159 v160 v161 v162 v163 v164 v165 v166 v167 v168 v169 v170 v171 v172 v173 v174 v175 v176 v177 v178 v179 v180 v181 v182 v183 v184 v185 v186 v187 v188 v189 v190 v191 v192 v193 v194 v195 v196 v197 v198 v199 v200 v201 v202 v203 v204 v205 v206 v207 v208 v209 v210 v211 v212 v213 v214 v215 v216 v217 v218 v219 v220 v221 v222 v223 v224 v225 v226 v227 v228 v229 v230 v231 v232 v233 v234 v235 v236 v237 v238 v239 v240 v241 v242 v243 : Value} {wx : World} {G X Y : Nat} {most : Int}
    (hQ : Q .normal { tmps := #[.int .i64 most, v1, v2, v3, v4, .pointer (some ⟨G, 0, none⟩), v6, .pointer (some ⟨X, 0, none⟩), v8, .pointer (some ⟨Y, 0, none⟩), .int .i64 0, v11, v12, v13, v14, v15, v16, v17, v18, v19, v20, v21, v22, v23, v24, v25, v26, v27, v28, v29, v30, v31, v32, v33, v34, v35, v36, v37, v38, v39, v40, v41, v42, v43, v44, v45, v46, v47, v48, v49, v50, v51, v52, v53, v54, v55, v56, v57, v58, v59, v60, v61, v62, v63, v64, v65, v66, v67, v68, v69, v70, v71, v72, v73, v74, v75, v76, v77, v78, v79, v80, v81, v82, v83, v84, v85, v86, v87, v88, v89, v90, v91, v92, v93, v94, v95, v96, v97, v98, v99, v100, v101, v102, v103, v104, v105, v106, v107, v108, v109, v110, v111, v112, v113, v114, v115, v116, v117, v118, v119, v120, v121, v122, v123, v124, v125, v126, v127, v128, v129, v130, v131, v132, v133, v134, v135, v136, v137, v138, v139, v140, v141, v142, v143, v144, v145, v146, v147, v148, v149, v150, v151, v152, v153, v154, v155, v156, v157, v158, v159, v160, v161, v162, v163, v164, v165, v166, v167, v168, v169, v170, v171, v172, v173, v174, v175, v176, v177, v178, v179, v180, v181, v182, v183, v184, v185, v186, v187, v188, v189, v190, v191, v192, v193, v194, v195, v196, v197, v198, v199, v200, v201, v202, v203, v204, v205, v206, v207, v208, v209, v210, v211, v212, v213, v214, v215, v216, v217, v218, v219, v220, v221, v222, v223, v224, v225, v226, v227, v228, v229, v230, v231, v232, v233, v234, v235, v236, v237, v238, v239, v240, v241, v242, v243], defers := [] } wx) : (p15 Try.f8).wp Try.prog Q { tmps := #[.int .i64 most, v1, v2, v3, v4, .pointer (some ⟨G, 0, none⟩), v6, .pointer (some ⟨X, 0, none⟩), v8, .pointer (some ⟨Y, 0, none⟩), v10, v11, v12, v13, v14, v15, v16, v17, v18, v19, v20, v21, v22, v23, v24, v25, v26, v27, v28, v29, v30, v31, v32, v33, v34, v35, v36, v37, v38, v39, v40, v41, v42, v43, v44, v45, v46, v47, v48, v49, v50, v51, v52, v53, v54, v55, v56, v57, v58, v59, v60, v61, v62, v63, v64, v65, v66, v67, v68, v69, v70, v71, v72, v73, v74, v75, v76, v77, v78, v79, v80, v81, v82, v83, v84, v85, v86, v87, v88, v89, v90, v91, v92, v93, v94, v95, v96, v97, v98, v99, v100, v101, v102, v103, v104, v105, v106, v107, v108, v109, v110, v111, v112, v113, v114, v115, v116, v117, v118, v119, v120, v121, v122, v123, v124, v125, v126, v127, v128, v129, v130, v131, v132, v133, v134, v135, v136, v137, v138, v139, v140, v141, v142, v143, v144, v145, v146, v147, v148, v149, v150, v151, v152, v153, v154, v155, v156, v157, v158, v159, v160, v161, v162, v163, v164, v165, v166, v167, v168, v169, v170, v171, v172, v173, v174, v175, v176, v177, v178, v179, v180, v181, v182, v183, v184, v185, v186, v187, v188, v189, v190, v191, v192, v193, v194, v195, v196, v197, v198, v199, v200, v201, v202, v203, v204, v205, v206, v207, v208, v209, v210, v211, v212, v213, v214, v215, v216, v217, v218, v219, v220, v221, v222, v223, v224, v225, v226, v227, v228, v229, v230, v231, v232, v233, v234, v235, v236, v237, v238, v239, v240, v241, v242, v243], defers := [] } wx := by
  have HQ := Lib.hid hQ
  clear hQ
  dsimp only [p12, p13, p15, pRB, pBlk, pLB, cH, cT, cB, Try.f8, Option.getD]
  go_wp2_with fail
  exact HQ.out

set_option maxRecDepth 100000 in
theorem segS {Q : Exit → Act → World → Prop} {v1 v2 v3 v4 v6 v8 v11 v12 v13 v14 v15 v16 v17 v18 v19 v20 v21 v22 v23 v24 v25 v26 v27 v28 v29 v30 v31 v32 v33 v34 v35 v36 v37 v38 v39 v40 v41 v42 v43 v44 v45 v46 v47 v48 v49 v50 v51 v52 v53 v54 v55 v56 v57 v58 v59 v60 v61 v62 v63 v64 v65 v66 v67 v68 v69 v70 v71 v72 v73 v74 v75 v76 v77 v78 v79 v80 v81 v82 v83 v84 v85 v86 v87 v88 v89 v90 v91 v92 v93 v94 v95 v96 v97 v98 v99 v100 v101 v102 v103 v104 v105 v106 v107 v108 v109 v110 v111 v112 v113 v114 v115 v116 v117 v118 v119 v120 v121 v122 v123 v124 v125 v126 v127 v128 v129 v130 v131 v132 v133 v134 v135 v136 v137 v138 v139 v140 v141 v142 v143 v144 v145 v146 v147 v148 v149 v150 v151 v152 v153 v154 v155 v156 v157 v158 v159 v160 v161 v162 v163 v164 v165 v166 v167 v168 v169 v170 v171 v172 v173 v174 v175 v176 v177 v178 v179 v180 v181 v182 v183 v184 v185 v186 v187 v188 v189 v190 v191 v192 v193 v194 v195 v196 v197 v198 v199 v200 v201 v202 v203 v204 v205 v206 v207 v208 v209 v210 v211 v212 v213 v214 v215 v216 v217 v218 v219 v220 v221 v222 v223 v224 v225 v226 v227 v228 v229 v230 v231 v232 v233 v234 v235 v236 v237 v238 v239 v240 v241 v242 v243 : Value} {w wx : World} {G X Y : Nat} {most qn : Int} {qA A0 : Option Addr} {qc c0 ln xl : Nat} {ql pre gap post : List S82} {vB : Value} {qk : Int} (h : Rnd w wx G X Y most qk qn ql pre gap post vB qA A0 qc c0 ln xl)
    (hQ : ∀ (u11 u12 u13 u14 u88 u89 u90 u91 u92 u93 u94 u95 u96 u97 u98 u99 u100 u101 u102 u103 u104 u105 u106 u107 u108 u109 u110 u111 u112 u113 u114 u115 u116 u117 u118 u119 u120 u121 u122 u123 u124 u125 u126 u127 u128 u129 u130 u131 u132 u133 u134 u135 u136 u137 u138 u139 u140 u141 u142 u143 u144 u145 u146 u147 u148 u149 u150 u151 u152 u153 u154 u155 u156 u157 u158 u159 u160 u161 u162 u163 u164 u165 u166 u167 u168 u169 u170 u171 u172 u173 u174 u175 u176 u177 u178 u179 u180 u181 u182 u183 u184 u185 u186 u187 u188 u189 u190 u191 u192 u193 u194 u195 u196 u197 u198 u199 u200 u201 u202 u203 u204 u205 u206 u207 u208 u209 u210 u211 u212 u213 u214 u215 : Value) (wy : World), GN w wy G X most (xl + 60) → Q .normal { tmps := #[.int .i64 most, v1, v2, v3, v4, .pointer (some ⟨G, 0, none⟩), v6, .pointer (some ⟨X, 0, none⟩), v8, .pointer (some ⟨Y, 0, none⟩), .int .i64 (wantE most qk ql xl), u11, u12, u13, u14, v15, v16, v17, v18, v19, v20, v21, v22, v23, v24, v25, v26, v27, v28, v29, v30, v31, v32, v33, v34, v35, v36, v37, v38, v39, v40, v41, v42, v43, v44, v45, v46, v47, v48, v49, v50, v51, v52, v53, v54, v55, v56, v57, v58, v59, v60, v61, v62, v63, v64, v65, v66, v67, v68, v69, v70, v71, v72, v73, v74, v75, v76, v77, v78, v79, v80, v81, v82, v83, v84, v85, v86, v87, u88, u89, u90, u91, u92, u93, u94, u95, u96, u97, u98, u99, u100, u101, u102, u103, u104, u105, u106, u107, u108, u109, u110, u111, u112, u113, u114, u115, u116, u117, u118, u119, u120, u121, u122, u123, u124, u125, u126, u127, u128, u129, u130, u131, u132, u133, u134, u135, u136, u137, u138, u139, u140, u141, u142, u143, u144, u145, u146, u147, u148, u149, u150, u151, u152, u153, u154, u155, u156, u157, u158, u159, u160, u161, u162, u163, u164, u165, u166, u167, u168, u169, u170, u171, u172, u173, u174, u175, u176, u177, u178, u179, u180, u181, u182, u183, u184, u185, u186, u187, u188, u189, u190, u191, u192, u193, u194, u195, u196, u197, u198, u199, u200, u201, u202, u203, u204, u205, u206, u207, u208, u209, u210, u211, u212, u213, u214, u215, v216, v217, v218, v219, v220, v221, v222, v223, v224, v225, v226, v227, v228, v229, v230, v231, v232, v233, v234, v235, v236, v237, v238, v239, v240, v241, v242, v243], defers := [] } wy) : (pS Try.f8).wp Try.prog Q { tmps := #[.int .i64 most, v1, v2, v3, v4, .pointer (some ⟨G, 0, none⟩), v6, .pointer (some ⟨X, 0, none⟩), v8, .pointer (some ⟨Y, 0, none⟩), .int .i64 (wantE most qk ql xl), v11, v12, v13, v14, v15, v16, v17, v18, v19, v20, v21, v22, v23, v24, v25, v26, v27, v28, v29, v30, v31, v32, v33, v34, v35, v36, v37, v38, v39, v40, v41, v42, v43, v44, v45, v46, v47, v48, v49, v50, v51, v52, v53, v54, v55, v56, v57, v58, v59, v60, v61, v62, v63, v64, v65, v66, v67, v68, v69, v70, v71, v72, v73, v74, v75, v76, v77, v78, v79, v80, v81, v82, v83, v84, v85, v86, v87, v88, v89, v90, v91, v92, v93, v94, v95, v96, v97, v98, v99, v100, v101, v102, v103, v104, v105, v106, v107, v108, v109, v110, v111, v112, v113, v114, v115, v116, v117, v118, v119, v120, v121, v122, v123, v124, v125, v126, v127, v128, v129, v130, v131, v132, v133, v134, v135, v136, v137, v138, v139, v140, v141, v142, v143, v144, v145, v146, v147, v148, v149, v150, v151, v152, v153, v154, v155, v156, v157, v158, v159, v160, v161, v162, v163, v164, v165, v166, v167, v168, v169, v170, v171, v172, v173, v174, v175, v176, v177, v178, v179, v180, v181, v182, v183, v184, v185, v186, v187, v188, v189, v190, v191, v192, v193, v194, v195, v196, v197, v198, v199, v200, v201, v202, v203, v204, v205, v206, v207, v208, v209, v210, v211, v212, v213, v214, v215, v216, v217, v218, v219, v220, v221, v222, v223, v224, v225, v226, v227, v228, v229, v230, v231, v232, v233, v234, v235, v236, v237, v238, v239, v240, v241, v242, v243], defers := [] } wx := by
  by_cases hk0 : qk = 0
  · subst hk0
    have hw : wantE most 0 ql xl = fitE ql (xl : Int) most := by
      unfold wantE fitE
      cases ql.all srt with
      | false => rfl
      | true =>
        rw [if_neg (by simp), if_pos rfl]
        by_cases hb : most < (ql.length : Int) + xl
        · rw [if_pos (.inl ⟨rfl, hb⟩), if_pos (by omega)]
        · rw [if_neg (by omega), if_neg (by omega)]
    rw [hw] at hQ ⊢
    by_cases hf : fitE ql (xl : Int) most = 0
    · rw [hf] at hQ ⊢
      exact segS0_ok h hf hQ
    · exact segS0_bad h rfl (by simpa using hf) hQ
  · by_cases hk1 : qk = 1
    · subst hk1
      exact segS1 h hQ
    · by_cases hk2 : qk = 2
      · subst hk2
        exact segS2 h hQ
      · by_cases hk3 : qk = 3
        · subst hk3
          have hw : wantE most 3 ql xl = fitE ql 0 most := by
            unfold wantE fitE
            cases ql.all srt with
            | false => rfl
            | true =>
              rw [if_neg (by simp), if_pos rfl]
              by_cases hb : most < (ql.length : Int)
              · rw [if_pos (.inr ⟨rfl, hb⟩), if_pos (by omega)]
              · rw [if_neg (by omega), if_neg (by omega)]
          rw [hw] at hQ ⊢
          by_cases hf : fitE ql 0 most = 0
          · rw [hf] at hQ ⊢
            exact segS3_ok h hf hQ
          · exact segS3_bad h rfl (by simpa using hf) hQ
        · by_cases hn : qn < 0
          · exact segS4_neg h hk0 hk1 hk2 hk3 hn hQ
          · by_cases hf : (xl : Int) ≤ qn
            · exact segS4_far h hk0 hk1 hk2 hk3 hn hf hQ
            · obtain ⟨i, hi⟩ := Int.eq_ofNat_of_zero_le (show 0 ≤ qn by omega)
              exact segS4_in h hk0 hk1 hk2 hk3 i hi (by omega) hQ

set_option maxRecDepth 100000 in
set_option maxHeartbeats 8000000 in
theorem segRound {Q : Exit → Act → World → Prop} {v2 v3 v4 v6 v9 v10 v11 v12 v13 v14 v15 v16 v17 v18 v19 v20 v21 v22 v23 v24 v25 v26 v27 v28 v29 v30 v31 v32 v33 v34 v35 v36 v37 v38 v39 v40 v41 v42 v43 v44 v45 v46 v47 v48 v49 v50 v51 v52 v53 v54 v55 v56 v57 v58 v59 v60 v61 v62 v63 v64 v65 v66 v67 v68 v69 v70 v71 v72 v73 v74 v75 v76 v77 v78 v79 v80 v81 v82 v83 v84 v85 v86 v87 v88 v89 v90 v91 v92 v93 v94 v95 v96 v97 v98 v99 v100 v101 v102 v103 v104 v105 v106 v107 v108 v109 v110 v111 v112 v113 v114 v115 v116 v117 v118 v119 v120 v121 v122 v123 v124 v125 v126 v127 v128 v129 v130 v131 v132 v133 v134 v135 v136 v137 v138 v139 v140 v141 v142 v143 v144 v145 v146 v147 v148 v149 v150 v151 v152 v153 v154 v155 v156 v157 v158 v159 v160 v161 v162 v163 v164 v165 v166 v167 v168 v169 v170 v171 v172 v173 v174 v175 v176 v177 v178 v179 v180 v181 v182 v183 v184 v185 v186 v187 v188 v189 v190 v191 v192 v193 v194 v195 v196 v197 v198 v199 v200 v201 v202 v203 v204 v205 v206 v207 v208 v209 v210 v211 v212 v213 v214 v215 v216 v217 v218 v219 v220 v221 v222 v223 v224 v225 v226 v227 v228 v229 v230 v231 v232 v233 v234 v235 v236 v237 v238 v239 v240 v241 v242 v243 : Value} {w wr : World} {G X j nq c ln qc c0 xl : Nat} {most qk qn : Int} {ad : Addr} {qA A0 : Option Addr} {ql pre gap post : List S82} {vB : Value} (hj : j < nq) (hjn : nq ≤ 9223372036854775807) (h0 : wr.cell? (ad.add (j * 3)) = some (.int .i64 qk)) (h1 : wr.cell? ⟨(ad.add (j * 3)).block, (ad.add (j * 3)).off + 1, none⟩ = some (.int .i64 qn)) (h2 : wr.cell? ⟨(ad.add (j * 3)).block, (ad.add (j * 3)).off + 2, none⟩ = some (.slice qA ln qc))
    (hg : GX w wr G X most pre gap post vB A0 c0) (hs : Src w qA qc ql) (hln : ql.length = ln) (hxl : (pre ++ post).length = xl) (h60 : ln ≤ 60) (hxb : xl ≤ 2400) (hm1 : 1 ≤ most) (hm2 : most ≤ 65536)
    (hQ : ∀ (u9 u10 u11 u12 u13 u14 u50 u51 u52 u53 u54 u55 u56 u57 u58 u59 u60 u61 u62 u63 u64 u65 u66 u67 u68 u69 u70 u71 u72 u73 u74 u75 u76 u77 u78 u79 u80 u81 u82 u83 u84 u85 u86 u87 u88 u89 u90 u91 u92 u93 u94 u95 u96 u97 u98 u99 u100 u101 u102 u103 u104 u105 u106 u107 u108 u109 u110 u111 u112 u113 u114 u115 u116 u117 u118 u119 u120 u121 u122 u123 u124 u125 u126 u127 u128 u129 u130 u131 u132 u133 u134 u135 u136 u137 u138 u139 u140 u141 u142 u143 u144 u145 u146 u147 u148 u149 u150 u151 u152 u153 u154 u155 u156 u157 u158 u159 u160 u161 u162 u163 u164 u165 u166 u167 u168 u169 u170 u171 u172 u173 u174 u175 u176 u177 u178 u179 u180 u181 u182 u183 u184 u185 u186 u187 u188 u189 u190 u191 u192 u193 u194 u195 u196 u197 u198 u199 u200 u201 u202 u203 u204 u205 u206 u207 u208 u209 u210 u211 u212 u213 u214 u215 u216 u217 u218 u219 u220 u221 u222 u223 u224 u225 u226 u227 u228 u229 u230 u231 u232 u233 u234 u235 u236 u237 u238 u239 u240 u241 u242 u243 : Value) (wy : World), GN w wy G X most (xl + 60) → Q .normal { tmps := #[.int .i64 most, .slice (some ad) nq c, v2, v3, v4, .pointer (some ⟨G, 0, none⟩), v6, .pointer (some ⟨X, 0, none⟩), .int .i64 (j : Int), u9, u10, u11, u12, u13, u14, v15, v16, v17, v18, v19, v20, v21, v22, v23, v24, v25, v26, v27, v28, v29, v30, v31, v32, v33, v34, v35, v36, v37, v38, v39, v40, v41, v42, v43, v44, v45, v46, v47, v48, v49, u50, u51, u52, u53, u54, u55, u56, u57, u58, u59, u60, u61, u62, u63, u64, u65, u66, u67, u68, u69, u70, u71, u72, u73, u74, u75, u76, u77, u78, u79, u80, u81, u82, u83, u84, u85, u86, u87, u88, u89, u90, u91, u92, u93, u94, u95, u96, u97, u98, u99, u100, u101, u102, u103, u104, u105, u106, u107, u108, u109, u110, u111, u112, u113, u114, u115, u116, u117, u118, u119, u120, u121, u122, u123, u124, u125, u126, u127, u128, u129, u130, u131, u132, u133, u134, u135, u136, u137, u138, u139, u140, u141, u142, u143, u144, u145, u146, u147, u148, u149, u150, u151, u152, u153, u154, u155, u156, u157, u158, u159, u160, u161, u162, u163, u164, u165, u166, u167, u168, u169, u170, u171, u172, u173, u174, u175, u176, u177, u178, u179, u180, u181, u182, u183, u184, u185, u186, u187, u188, u189, u190, u191, u192, u193, u194, u195, u196, u197, u198, u199, u200, u201, u202, u203, u204, u205, u206, u207, u208, u209, u210, u211, u212, u213, u214, u215, u216, u217, u218, u219, u220, u221, u222, u223, u224, u225, u226, u227, u228, u229, u230, u231, u232, u233, u234, u235, u236, u237, u238, u239, u240, u241, u242, u243], defers := [] } wy) : (pBlk Try.f8).wp Try.prog Q { tmps := #[.int .i64 most, .slice (some ad) nq c, v2, v3, v4, .pointer (some ⟨G, 0, none⟩), v6, .pointer (some ⟨X, 0, none⟩), .int .i64 (j : Int), v9, v10, v11, v12, v13, v14, v15, v16, v17, v18, v19, v20, v21, v22, v23, v24, v25, v26, v27, v28, v29, v30, v31, v32, v33, v34, v35, v36, v37, v38, v39, v40, v41, v42, v43, v44, v45, v46, v47, v48, v49, v50, v51, v52, v53, v54, v55, v56, v57, v58, v59, v60, v61, v62, v63, v64, v65, v66, v67, v68, v69, v70, v71, v72, v73, v74, v75, v76, v77, v78, v79, v80, v81, v82, v83, v84, v85, v86, v87, v88, v89, v90, v91, v92, v93, v94, v95, v96, v97, v98, v99, v100, v101, v102, v103, v104, v105, v106, v107, v108, v109, v110, v111, v112, v113, v114, v115, v116, v117, v118, v119, v120, v121, v122, v123, v124, v125, v126, v127, v128, v129, v130, v131, v132, v133, v134, v135, v136, v137, v138, v139, v140, v141, v142, v143, v144, v145, v146, v147, v148, v149, v150, v151, v152, v153, v154, v155, v156, v157, v158, v159, v160, v161, v162, v163, v164, v165, v166, v167, v168, v169, v170, v171, v172, v173, v174, v175, v176, v177, v178, v179, v180, v181, v182, v183, v184, v185, v186, v187, v188, v189, v190, v191, v192, v193, v194, v195, v196, v197, v198, v199, v200, v201, v202, v203, v204, v205, v206, v207, v208, v209, v210, v211, v212, v213, v214, v215, v216, v217, v218, v219, v220, v221, v222, v223, v224, v225, v226, v227, v228, v229, v230, v231, v232, v233, v234, v235, v236, v237, v238, v239, v240, v241, v242, v243], defers := [] } wr := by
  have hR : Rnd w (wr.alloc (.cells #[.int .i64 qk, .int .i64 qn, .slice qA ln qc] 72)) G X wr.heap.size most qk qn ql pre gap post vB qA A0 qc c0 ln xl :=
    ⟨heap_alloc_new _ _, hg.below (balloc _ _), hs, hln, hxl, h60, hxb, hm1, hm2, hg.g.bel.size⟩
  rw [eBlk]
  refine wp_block ?_
  rw [eRB]
  refine wp_seq (seg12 hj hjn h0 h1 h2 ?_)
  intro u50 u51 u52 u53
  refine wp_seq (seg13 hR ?_)
  intro u54 u55 u56 u57
  refine wp_seq (seg15 ?_)
  refine wp_seq (segW hR ?_)
  intro u58 u59 u60 u61 u62 u63 u64 u65 u66 u67 u68 u69 u70 u71 u72 u73 u74 u75 u76 u77 u78 u79 u80 u81 u82 u83 u84 u85 u86 u87 wy hR2
  refine wp_seq (segS hR2 ?_)
  intro u11 u12 u13 u14 u88 u89 u90 u91 u92 u93 u94 u95 u96 u97 u98 u99 u100 u101 u102 u103 u104 u105 u106 u107 u108 u109 u110 u111 u112 u113 u114 u115 u116 u117 u118 u119 u120 u121 u122 u123 u124 u125 u126 u127 u128 u129 u130 u131 u132 u133 u134 u135 u136 u137 u138 u139 u140 u141 u142 u143 u144 u145 u146 u147 u148 u149 u150 u151 u152 u153 u154 u155 u156 u157 u158 u159 u160 u161 u162 u163 u164 u165 u166 u167 u168 u169 u170 u171 u172 u173 u174 u175 u176 u177 u178 u179 u180 u181 u182 u183 u184 u185 u186 u187 u188 u189 u190 u191 u192 u193 u194 u195 u196 u197 u198 u199 u200 u201 u202 u203 u204 u205 u206 u207 u208 u209 u210 u211 u212 u213 u214 u215 wz hG
  refine segC hG (by omega) ?_
  intro u216 u217 u218 u219 u220 u221 u222 u223 u224 u225 u226 u227 u228 u229 u230 u231 u232 u233 u234 u235 u236 u237 u238 u239 u240 u241 u242 u243 wq hG2
  exact hQ _ _ _ _ _ _ _ _ _ _ _ _ _ _ _ _ _ _ _ _ _ _ _ _ _ _ _ _ _ _ _ _ _ _ _ _ _ _ _ _ _ _ _ _ _ _ _ _ _ _ _ _ _ _ _ _ _ _ _ _ _ _ _ _ _ _ _ _ _ _ _ _ _ _ _ _ _ _ _ _ _ _ _ _ _ _ _ _ _ _ _ _ _ _ _ _ _ _ _ _ _ _ _ _ _ _ _ _ _ _ _ _ _ _ _ _ _ _ _ _ _ _ _ _ _ _ _ _ _ _ _ _ _ _ _ _ _ _ _ _ _ _ _ _ _ _ _ _ _ _ _ _ _ _ _ _ _ _ _ _ _ _ _ _ _ _ _ _ _ _ _ _ _ _ _ _ _ _ _ _ _ _ _ _ _ _ _ _ _ _ _ _ _ _ _ _ _ _ _ _ wq hG2

end Go.Proofs.Ytopmenioioljoaa.GapW

/-
  THE LAW GapDoes (dactyllaw16): its walk: it returns true.
-/
namespace Go.Proofs.Ytopmenioioljoaa.GapW
open Go.RowKit Go.Proofs.Ytopmenioioljoaa.Base Go.Proofs.YtopmenioioljoaaW.PrintWords Go.Proofs.YtopmenioioljoaaW.PrintLast Go.Proofs.YtopmenioioljoaaW.PrintMore Go.Proofs.Ytopmenioioljoaa.PGapDoes Go.Proofs.Ytopmenioioljoaa.CountW

set_option maxRecDepth 100000 in
set_option maxHeartbeats 8000000 in
theorem glaw_walk (most : Int) (A : Option Addr) (c : Nat) (qs : List Gl) (w : World) (hq : Gls w A qs) (hm1 : 1 ≤ most) (hm2 : most ≤ 65536) :
    Calls Try.prog 8 #[.int .i64 most, .slice A qs.length c] w fun e w' => e = .returned (.bool true) ∧ Below w.heap.size w w' := by
  have hlm : qs.length ≤ 9223372036854775807 := hq.1
  have HQ := Lib.hid hq
  have d1 : decide (most < 1) = false := decide_eq_false (by omega)
  have d2 : decide (65536 < most) = false := decide_eq_false (by omega)
  have HN := Lib.hid (fun w1 hb => gnew most w w1 hb hm1 hm2)
  have HM := Lib.hid (show 1 ≤ most ∧ most ≤ 65536 from ⟨hm1, hm2⟩)
  clear hq hm1 hm2
  go_enter Try.func8, Try.ntmps8
  go_wp2_with fail
  refine (awake41 _).mono ?_
  rintro e w1 ⟨rfl, hb1⟩
  go_wp2_with fail
  refine (HN.out _ hb1).mono ?_
  rintro e w2 ⟨rfl, hG2, hb2⟩
  have hX2 : XSt w (w2.alloc (.cells #[.slice none 0 0, .int .i64 0] 70)) w2.heap.size none 0 [] 0 :=
    ⟨heap_alloc_new _ _, hG2.bel.size, ⟨⟨rfl, by simp, fun h => by simp at h⟩, by simp, fun _ => rfl⟩⟩
  have hG3 := hG2.below (balloc w2 (.cells #[.slice none 0 0, .int .i64 0] 70))
  have HI : Hid (GInv w (w2.alloc (.cells #[.slice none 0 0, .int .i64 0] 70)) w1.heap.size w2.heap.size most 0) := ⟨[], [], [], _, none, 0, ⟨hG3, hX2, fun h => by simp at h⟩, by simp⟩
  clear hG2 hX2 hG3 hb1 hb2
  go_wp2_with fail
  go_loopg [8] 40 (fun g vi wr => ∃ j : Nat, j + g = 40 ∧ vi = .int .i64 j ∧ j ≤ qs.length ∧ Hid (GInv w wr w1.heap.size w2.heap.size most j))
  case atStart => exact ⟨0, by omega, rfl, by omega, HI⟩
  case round =>
    obtain ⟨j, hj, rfl, hjl, HI1⟩ := hrel
    clear HI
    by_cases h40 : j < 40
    · obtain ⟨g, rfl⟩ : ∃ g, gk = g + 1 := ⟨gk - 1, by omega⟩
      by_cases hlt : j < qs.length
      · have hq1 := HQ.out.2 j qs[j] (List.getElem?_eq_getElem hlt)
        obtain ⟨q, hqe⟩ : ∃ q, qs[j] = q := ⟨_, rfl⟩
        rw [hqe] at hq1
        obtain ⟨hsrc, ad, rfl, hat⟩ := hq1
        have hbel : Below w.heap.size w wr := HI1.out.bel
        have hat1 := hat.below hbel
        have hlt2 := hsrc.lt
        obtain ⟨qk, qn, qA, qc, ql⟩ := q
        obtain ⟨h0, h1, h2⟩ := hat1
        simp only at h0 h1 h2 hsrc hlt2
        have HS := Lib.hid hsrc
        clear hat hbel hqe hsrc hlt2
        obtain ⟨ln, hln⟩ : ∃ ln, ql.length = ln := ⟨_, rfl⟩
        rw [hln] at h2
        by_cases h60 : 60 < ln
        · have y2 : (wr.alloc (.cells #[.int .i64 qk, .int .i64 qn, .slice qA ln qc] 72)).cell? ⟨wr.heap.size, 2, none⟩ = some (.slice qA ln qc) := blk_cell (heap_alloc_new _ _) 2
          go_wp2_with fail
          go_ret
          exact ⟨rfl, btr HI1.out.bel (balloc _ _)⟩
        · obtain ⟨pre, gap, post, vB, A0, c0, hgx, hlen⟩ := HI1.out
          have HGX := Lib.hid hgx
          have HLE := Lib.hid hlen
          have HLN := Lib.hid hln
          have H60 := Lib.hid (show ln ≤ 60 by omega)
          have H0 := Lib.hid h0
          have H1 := Lib.hid h1
          have H2 := Lib.hid h2
          clear hgx hlen hln h60 h0 h1 h2
          go_upto_block 1 with (fail)
          refine segRound hlt hlm H0.out H1.out H2.out HGX.out HS.out HLN.out rfl H60.out (by rw [List.length_append]; have := HLE.out; omega) HM.out.1 HM.out.2 ?_
          intro u9 u10 u11 u12 u13 u14 u50 u51 u52 u53 u54 u55 u56 u57 u58 u59 u60 u61 u62 u63 u64 u65 u66 u67 u68 u69 u70 u71 u72 u73 u74 u75 u76 u77 u78 u79 u80 u81 u82 u83 u84 u85 u86 u87 u88 u89 u90 u91 u92 u93 u94 u95 u96 u97 u98 u99 u100 u101 u102 u103 u104 u105 u106 u107 u108 u109 u110 u111 u112 u113 u114 u115 u116 u117 u118 u119 u120 u121 u122 u123 u124 u125 u126 u127 u128 u129 u130 u131 u132 u133 u134 u135 u136 u137 u138 u139 u140 u141 u142 u143 u144 u145 u146 u147 u148 u149 u150 u151 u152 u153 u154 u155 u156 u157 u158 u159 u160 u161 u162 u163 u164 u165 u166 u167 u168 u169 u170 u171 u172 u173 u174 u175 u176 u177 u178 u179 u180 u181 u182 u183 u184 u185 u186 u187 u188 u189 u190 u191 u192 u193 u194 u195 u196 u197 u198 u199 u200 u201 u202 u203 u204 u205 u206 u207 u208 u209 u210 u211 u212 u213 u214 u215 u216 u217 u218 u219 u220 u221 u222 u223 u224 u225 u226 u227 u228 u229 u230 u231 u232 u233 u234 u235 u236 u237 u238 u239 u240 u241 u242 u243 wy hG
          have HI6 : Hid (GInv w wy w1.heap.size w2.heap.size most (j + 1)) := by
            obtain ⟨p3, g3, q3, vB3, A3, c3, hx3, hl3⟩ := hG
            refine ⟨p3, g3, q3, vB3, A3, c3, hx3, ?_⟩
            have := HLE.out
            rw [List.length_append] at hl3
            omega
          clear hG
          go_wp2_with fail
          go_roundg g
          case measure => omega
          case rel => exact ⟨j + 1, by omega, by go_num, by omega, HI6⟩
      · go_wp2_with fail
        go_ret
        exact ⟨rfl, HI1.out.bel⟩
    · go_wp2_with fail
      all_goals
        go_ret
        exact ⟨rfl, HI1.out.bel⟩

end Go.Proofs.Ytopmenioioljoaa.GapW

/-
  THE ARGUMENT OF GapDoes: a slice of calls, opened to a list that can be read.
-/
namespace Go.Proofs.Ytopmenioioljoaa.GapW
open Go.ChangeShapes Go.WideShapes Go.Deep Go.RowKit Go.Proofs.YtopmenioioljoaaW.PrintWords Go.Proofs.Ytopmenioioljoaa.PGapDoes Go.Proofs.Ytopmenioioljoaa.Args

section
variable {H : Type} {enc : TypeId × Value → H} {w : World} {base : Nat} {spare : Nat → Bool} {held : Bool}
theorem gl_row {A : Option Addr} {len cap : Nat} {d : DataW H} {p : List MemPlace} (h : DataW.Trod enc Try.prog w base spare held 64 (.slice A len cap) d p) : ∃ qs : List Gl, qs.length = len ∧ Gls w A qs := by
  obtain ⟨fuel, hf⟩ := h
  rcases open_slice_fields Try.underlying64 Try.underlying72 (by kernel_rfl) (by kernel_rfl) hf with ⟨hcs, _⟩ | ⟨a, l, c, m, D, Pl, hcs, _, hl, hm, hmm, _, hfs⟩
  · simp [Value.cells] at hcs
    obtain ⟨rfl, rfl, rfl⟩ := hcs
    exact ⟨[], rfl, by simp, fun j q hj => by simp at hj⟩
  · simp [Value.cells] at hcs
    obtain ⟨rfl, rfl, rfl⟩ := hcs
    have hlm : len ≤ m := by rw [hmm]; split <;> omega
    obtain ⟨qs, hql, hq⟩ := list_of (fun i (q : Gl) => Src w q.A q.c q.l ∧ GAt a i q w) len (fun i him => by
      obtain ⟨ys, n, _, _, _, hall⟩ := hfs i (by omega)
      obtain ⟨v0, y0, c0, _, t0⟩ := hall 0 _ rfl
      obtain ⟨v1, y1, c1, _, t1⟩ := hall 1 _ rfl
      obtain ⟨v2, y2, c2, _, t2⟩ := hall 2 _ rfl
      obtain ⟨x0, e0, _, _⟩ := DataW.trod_int Try.underlying3 t0
      obtain ⟨x1, e1, _, _⟩ := DataW.trod_int Try.underlying3 t1
      obtain ⟨A2, c2', xs, e2, hs⟩ := sign_of t2
      simp only [List.cons.injEq, and_true] at e0 e1
      subst e0 e1 e2
      have k1 : w.cell? (a.add (i * 3 + 1)) = some (.int .i64 x1) := c1
      have k2 : w.cell? (a.add (i * 3 + 2)) = some (.slice A2 xs.length c2') := c2
      exact ⟨⟨x0, x1, A2, c2', xs⟩, hs, c0, by rw [← add_field _ _ 1 (by omega)]; exact k1, by rw [← add_field _ _ 2 (by omega)]; exact k2⟩)
    exact ⟨qs, hql, by rw [hql]; unfold maxLen at hm; omega, fun j q hj => ⟨(hq j q hj).1, a, rfl, (hq j q hj).2⟩⟩
end

theorem glaw_walk' (most : Int) (A : Option Addr) (c : Nat) (qs : List Gl) (w : World) (hq : Gls w A qs) :
    Calls Try.prog 8 #[.int .i64 most, .slice A qs.length c] w fun e w' => e = .returned (.bool true) ∧ Below w.heap.size w w' := by
  by_cases h1 : 1 ≤ most
  · by_cases h2 : most ≤ 65536
    · exact glaw_walk most A c qs w hq h1 h2
    · exact glaw_bad most A c _ w (by omega)
  · exact glaw_bad most A c _ w (by omega)

end Go.Proofs.Ytopmenioioljoaa.GapW
