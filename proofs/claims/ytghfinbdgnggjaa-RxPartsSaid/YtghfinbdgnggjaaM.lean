/- Functions of the program in the evaluator's form, written out by a program. No conditions. -/
import Derived.Test.YtghfinbdgnggjaaGrow
set_option linter.unusedVariables false
namespace Go.Proofs.Ytghfinbdgnggjaa
open Go Go.Ab
def M20 : MFun :=
  { ntmps := 12, res := [MRes.tmp 1 4],
    body :=
      (MC.reg
            [{ dst := some 4, op := MOp.mv (Opd.c AV.nils), guard := none }]).seq
        ((MC.reg
              [{ dst := some 5, op := MOp.mv (Opd.s 0), guard := none },
                { dst := some 6, op := MOp.mv (Opd.s 0), guard := none },
                { dst := some 7, op := MOp.len (Opd.s 6), guard := none },
                { dst := some 8, op := MOp.mv (Opd.s 1), guard := none },
                { dst := some 9, op := MOp.mn [Opd.s 7, Opd.s 8], guard := none },
                { dst := some 10,
                  op := MOp.slc 1 (Opd.s 5) none (some (Opd.s 9)),
                  guard := none },
                { dst := some 11,
                  op := MOp.app false 1 1 (Opd.c AV.nils) (Opd.s 10),
                  guard := none },
                { dst := some 4, op := MOp.mv (Opd.s 11), guard := none }]).seq
          MC.ret) }

def M21b0 : MC :=
  ((MC.reg
                          [{ dst := some 9, op := MOp.bin .lss (Opd.s 8) (Opd.s 7),
                              guard := none }]).seq
                      ((MC.cond (Opd.s 9) MC.skip (MC.exit 0)).seq
                        ((MC.block 1
                              ((MC.reg
                                    [{ dst := some 10, op := MOp.ixa 1 (Opd.s 6) (Opd.s 8),
                                        guard := none },
                                      { dst := some 11, op := MOp.load none (Opd.s 10),
                                        guard := none },
                                      { dst := some 5, op := MOp.mv (Opd.s 11),
                                        guard := none }]).seq
                                (MC.reg
                                  [{ dst := some 12, op := MOp.mv (Opd.s 3), guard := none },
                                    { dst := some 13, op := MOp.mv (Opd.s 5), guard := none },
                                    { dst := some 14,
                                      op := MOp.call 23 [(0, Opd.s 12), (0, Opd.s 13)],
                                      guard := none },
                                    { dst := some 3, op := MOp.mv (Opd.s 14),
                                      guard := none }]))).seq
                          (MC.reg
                            [{ dst := some 15,
                                op :=
                                  MOp.bin .add (Opd.s 8)
                                    (Opd.c (AV.int .i64 1)),
                                guard := none },
                              { dst := some 8, op := MOp.mv (Opd.s 15),
                                guard := none }]))))
def M21b0l : List Bool := [false, false, false, true, false, false, true, true, true, false, false, false, false, false, false, false, false, false]

def M21 : MFun :=
  { ntmps := 18, res := [MRes.tmp 0 2],
    body :=
      (MC.reg
            [{ dst := some 2, op := MOp.mv (Opd.c (AV.int .u16 0)),
                guard := none }]).seq
        ((MC.reg
              [{ dst := some 3, op := MOp.mv (Opd.c (AV.int .u16 65535)),
                  guard := none }]).seq
          (((MC.reg
                    [{ dst := some 6, op := MOp.mv (Opd.s 0), guard := none },
                      { dst := some 7, op := MOp.len (Opd.s 6), guard := none },
                      { dst := some 8,
                        op := MOp.mv (Opd.c (AV.int .i64 0)),
                        guard := none }]).seq
                (MC.block 0
                  (MC.loop M21b0l M21b0))).seq
            ((MC.reg
                  [{ dst := some 16, op := MOp.mv (Opd.s 3), guard := none },
                    { dst := some 17, op := MOp.un .xor (Opd.s 16), guard := none },
                    { dst := some 2, op := MOp.mv (Opd.s 17), guard := none }]).seq
              MC.ret))) }

def M22b0 : MC :=
  (((MC.reg
                              [{ dst := some 5, op := MOp.mv (Opd.s 4), guard := none },
                                { dst := some 6, op := MOp.mv (Opd.s 0), guard := none },
                                { dst := some 7, op := MOp.len (Opd.s 6), guard := none },
                                { dst := some 8,
                                  op := MOp.bin .lss (Opd.s 5) (Opd.s 7),
                                  guard := none }]).seq
                          (MC.cond (Opd.s 8) MC.skip (MC.exit 0))).seq
                      ((MC.block 1
                            (MC.reg
                              [{ dst := some 11, op := MOp.mv (Opd.s 3), guard := none },
                                { dst := some 12, op := MOp.mv (Opd.s 0), guard := none },
                                { dst := some 13, op := MOp.mv (Opd.s 4), guard := none },
                                { dst := some 14, op := MOp.ixa 1 (Opd.s 12) (Opd.s 13),
                                  guard := none },
                                { dst := some 15, op := MOp.load none (Opd.s 14),
                                  guard := none },
                                { dst := some 16,
                                  op := MOp.call 24 [(0, Opd.s 11), (0, Opd.s 15)],
                                  guard := none },
                                { dst := some 3, op := MOp.mv (Opd.s 16),
                                  guard := none }])).seq
                        (MC.reg
                          [{ dst := some 9, op := MOp.mv (Opd.s 4), guard := none },
                            { dst := some 10,
                              op :=
                                MOp.bin .add (Opd.s 9)
                                  (Opd.c (AV.int .i64 1)),
                              guard := none },
                            { dst := some 4, op := MOp.mv (Opd.s 10),
                              guard := none }])))
def M22b0l : List Bool := [true, false, false, true, true, false, false, false, false, false, false, false, false, false, false, false, false, false, false]

def M22 : MFun :=
  { ntmps := 19, res := [MRes.tmp 0 2],
    body :=
      (MC.reg
            [{ dst := some 2, op := MOp.mv (Opd.c (AV.int .u16 0)),
                guard := none }]).seq
        ((MC.reg
              [{ dst := some 3, op := MOp.mv (Opd.c (AV.int .u16 65535)),
                  guard := none }]).seq
          (((MC.reg
                    [{ dst := some 4,
                        op := MOp.mv (Opd.c (AV.int .i64 0)),
                        guard := none }]).seq
                (MC.block 0
                  (MC.loop M22b0l M22b0))).seq
            ((MC.reg
                  [{ dst := some 17, op := MOp.mv (Opd.s 3), guard := none },
                    { dst := some 18,
                      op :=
                        MOp.bin .sub (Opd.c (AV.int .u16 65535))
                          (Opd.s 17),
                      guard := none },
                    { dst := some 2, op := MOp.mv (Opd.s 18), guard := none }]).seq
              MC.ret))) }

def M23b0 : MC :=
  ((MC.reg
                          [{ dst := some 11,
                              op :=
                                MOp.bin .lss (Opd.s 10)
                                  (Opd.c (AV.int .i64 8)),
                              guard := none }]).seq
                      ((MC.cond (Opd.s 11) MC.skip (MC.exit 0)).seq
                        ((MC.block 1
                              ((MC.reg
                                    [{ dst := some 12, op := MOp.mv (Opd.s 0),
                                        guard := none },
                                      { dst := some 13,
                                        op :=
                                          MOp.bin .and (Opd.s 12)
                                            (Opd.c (AV.int .u16 1)),
                                        guard := none },
                                      { dst := some 5, op := MOp.mv (Opd.s 13),
                                        guard := none }]).seq
                                ((MC.reg
                                      [{ dst := some 14, op := MOp.mv (Opd.s 0),
                                          guard := none },
                                        { dst := some 15,
                                          op :=
                                            MOp.bin .shr (Opd.s 14)
                                              (Opd.c (AV.int .u64 1)),
                                          guard := none },
                                        { dst := some 0, op := MOp.mv (Opd.s 15),
                                          guard := none }]).seq
                                  ((MC.reg
                                        [{ dst := some 16, op := MOp.mv (Opd.s 5),
                                            guard := none },
                                          { dst := some 17,
                                            op :=
                                              MOp.bin .eql (Opd.s 16)
                                                (Opd.c (AV.int .u16 1)),
                                            guard := none }]).seq
                                    (MC.cond (Opd.s 17)
                                      (MC.reg
                                        [{ dst := some 18, op := MOp.mv (Opd.s 0),
                                            guard := none },
                                          { dst := some 19,
                                            op :=
                                              MOp.bin .xor (Opd.s 18)
                                                (Opd.c (AV.int .u16 33800)),
                                            guard := none },
                                          { dst := some 0, op := MOp.mv (Opd.s 19),
                                            guard := none }])
                                      MC.skip))))).seq
                          (MC.reg
                            [{ dst := some 20,
                                op :=
                                  MOp.bin .add (Opd.s 10)
                                    (Opd.c (AV.int .i64 1)),
                                guard := none },
                              { dst := some 10, op := MOp.mv (Opd.s 20),
                                guard := none }]))))
def M23b0l : List Bool := [true, false, false, false, false, false, false, false, false, false, true, false, false, false, false, false, false, false, false, false, false, false]

def M23 : MFun :=
  { ntmps := 22, res := [MRes.tmp 0 4],
    body :=
      (MC.reg
            [{ dst := some 4, op := MOp.mv (Opd.c (AV.int .u16 0)),
                guard := none }]).seq
        ((MC.reg
              [{ dst := some 6, op := MOp.mv (Opd.s 0), guard := none },
                { dst := some 7, op := MOp.mv (Opd.s 1), guard := none },
                { dst := some 8, op := MOp.conv (Cv.toInt .u16) (Opd.s 7),
                  guard := none },
                { dst := some 9, op := MOp.bin .xor (Opd.s 6) (Opd.s 8),
                  guard := none },
                { dst := some 0, op := MOp.mv (Opd.s 9), guard := none }]).seq
          (((MC.reg
                    [{ dst := some 10,
                        op := MOp.mv (Opd.c (AV.int .i64 0)),
                        guard := none }]).seq
                (MC.block 0
                  (MC.loop M23b0l M23b0))).seq
            ((MC.reg
                  [{ dst := some 21, op := MOp.mv (Opd.s 0), guard := none },
                    { dst := some 4, op := MOp.mv (Opd.s 21), guard := none }]).seq
              MC.ret))) }

def M24b0 : MC :=
  (((MC.reg
                              [{ dst := some 11, op := MOp.mv (Opd.s 5), guard := none },
                                { dst := some 12,
                                  op :=
                                    MOp.bin .lss (Opd.s 11)
                                      (Opd.c (AV.int .i64 8)),
                                  guard := none }]).seq
                          (MC.cond (Opd.s 12) MC.skip (MC.exit 0))).seq
                      ((MC.block 1
                            ((MC.reg
                                  [{ dst := some 15, op := MOp.mv (Opd.s 0), guard := none },
                                    { dst := some 16,
                                      op :=
                                        MOp.bin .rem (Opd.s 15)
                                          (Opd.c (AV.int .u16 2)),
                                      guard := none },
                                    { dst := some 17,
                                      op :=
                                        MOp.bin .eql (Opd.s 16)
                                          (Opd.c (AV.int .u16 1)),
                                      guard := none },
                                    { dst := some 6, op := MOp.mv (Opd.s 17),
                                      guard := none }]).seq
                              ((MC.reg
                                    [{ dst := some 18, op := MOp.mv (Opd.s 0),
                                        guard := none },
                                      { dst := some 19,
                                        op :=
                                          MOp.bin .quo (Opd.s 18)
                                            (Opd.c (AV.int .u16 2)),
                                        guard := none },
                                      { dst := some 0, op := MOp.mv (Opd.s 19),
                                        guard := none }]).seq
                                ((MC.reg
                                      [{ dst := some 20, op := MOp.mv (Opd.s 6),
                                          guard := none }]).seq
                                  (MC.cond (Opd.s 20)
                                    (MC.reg
                                      [{ dst := some 21, op := MOp.mv (Opd.s 0),
                                          guard := none },
                                        { dst := some 22,
                                          op :=
                                            MOp.bin .xor (Opd.s 21)
                                              (Opd.c (AV.int .u16 33800)),
                                          guard := none },
                                        { dst := some 0, op := MOp.mv (Opd.s 22),
                                          guard := none }])
                                    MC.skip))))).seq
                        (MC.reg
                          [{ dst := some 13, op := MOp.mv (Opd.s 5), guard := none },
                            { dst := some 14,
                              op :=
                                MOp.bin .add (Opd.s 13)
                                  (Opd.c (AV.int .i64 1)),
                              guard := none },
                            { dst := some 5, op := MOp.mv (Opd.s 14),
                              guard := none }])))
def M24b0l : List Bool := [true, false, false, false, false, true, false, false, false, false, false, false, false, false, false, false, false, false, false, false, false, false, false, false]

def M24 : MFun :=
  { ntmps := 24, res := [MRes.tmp 0 4],
    body :=
      (MC.reg
            [{ dst := some 4, op := MOp.mv (Opd.c (AV.int .u16 0)),
                guard := none }]).seq
        ((MC.reg
              [{ dst := some 7, op := MOp.mv (Opd.s 0), guard := none },
                { dst := some 8, op := MOp.mv (Opd.s 1), guard := none },
                { dst := some 9, op := MOp.conv (Cv.toInt .u16) (Opd.s 8),
                  guard := none },
                { dst := some 10, op := MOp.bin .xor (Opd.s 7) (Opd.s 9),
                  guard := none },
                { dst := some 0, op := MOp.mv (Opd.s 10), guard := none }]).seq
          (((MC.reg
                    [{ dst := some 5,
                        op := MOp.mv (Opd.c (AV.int .i64 0)),
                        guard := none }]).seq
                (MC.block 0
                  (MC.loop M24b0l M24b0))).seq
            ((MC.reg
                  [{ dst := some 23, op := MOp.mv (Opd.s 0), guard := none },
                    { dst := some 4, op := MOp.mv (Opd.s 23), guard := none }]).seq
              MC.ret))) }

def M25 : MFun :=
  { ntmps := 15, res := [MRes.tmp 1 2],
    body :=
      (MC.reg
            [{ dst := some 2, op := MOp.mv (Opd.c AV.nils), guard := none }]).seq
        ((MC.reg
              [{ dst := some 4, op := MOp.mv (Opd.s 0), guard := none },
                { dst := some 5, op := MOp.call 21 [(1, Opd.s 4)], guard := none },
                { dst := some 3, op := MOp.mv (Opd.s 5), guard := none }]).seq
          ((MC.reg
                [{ dst := some 6, op := MOp.mv (Opd.s 0), guard := none },
                  { dst := some 7, op := MOp.call 42 [(1, Opd.s 6)], guard := none },
                  { dst := some 8, op := MOp.mv (Opd.s 3), guard := none },
                  { dst := some 9, op := MOp.conv (Cv.toInt .u8) (Opd.s 8),
                    guard := none },
                  { dst := some 10, op := MOp.mv (Opd.s 3), guard := none },
                  { dst := some 11,
                    op :=
                      MOp.bin .shr (Opd.s 10)
                        (Opd.c (AV.int .u64 8)),
                    guard := none },
                  { dst := some 12, op := MOp.conv (Cv.toInt .u8) (Opd.s 11),
                    guard := none },
                  { dst := some 13,
                    op :=
                      MOp.bsl false 1 2
                        [AV.int .u8 0, AV.int .u8 0]
                        [(0, 1, Opd.s 9), (1, 1, Opd.s 12)],
                    guard := none },
                  { dst := some 14, op := MOp.app false 1 1 (Opd.s 7) (Opd.s 13),
                    guard := none },
                  { dst := some 2, op := MOp.mv (Opd.s 14), guard := none }]).seq
            MC.ret)) }

def M26 : MFun :=
  { ntmps := 16, res := [MRes.tmp 1 2],
    body :=
      (MC.reg
            [{ dst := some 2, op := MOp.mv (Opd.c AV.nils), guard := none }]).seq
        ((MC.reg
              [{ dst := some 4, op := MOp.mv (Opd.s 0), guard := none },
                { dst := some 5, op := MOp.call 22 [(1, Opd.s 4)], guard := none },
                { dst := some 3, op := MOp.mv (Opd.s 5), guard := none }]).seq
          ((MC.reg
                [{ dst := some 6, op := MOp.mv (Opd.s 0), guard := none },
                  { dst := some 7,
                    op := MOp.app false 1 1 (Opd.c AV.nils) (Opd.s 6),
                    guard := none },
                  { dst := some 8, op := MOp.mv (Opd.s 3), guard := none },
                  { dst := some 9,
                    op :=
                      MOp.bin .rem (Opd.s 8)
                        (Opd.c (AV.int .u16 256)),
                    guard := none },
                  { dst := some 10, op := MOp.conv (Cv.toInt .u8) (Opd.s 9),
                    guard := none },
                  { dst := some 11, op := MOp.mv (Opd.s 3), guard := none },
                  { dst := some 12,
                    op :=
                      MOp.bin .quo (Opd.s 11)
                        (Opd.c (AV.int .u16 256)),
                    guard := none },
                  { dst := some 13, op := MOp.conv (Cv.toInt .u8) (Opd.s 12),
                    guard := none },
                  { dst := some 14,
                    op :=
                      MOp.bsl false 1 2
                        [AV.int .u8 0, AV.int .u8 0]
                        [(0, 1, Opd.s 10), (1, 1, Opd.s 13)],
                    guard := none },
                  { dst := some 15, op := MOp.app false 1 1 (Opd.s 7) (Opd.s 14),
                    guard := none },
                  { dst := some 2, op := MOp.mv (Opd.s 15), guard := none }]).seq
            MC.ret)) }

def M27 : MFun :=
  { ntmps := 17, res := [MRes.tmp 0 2],
    body :=
      (MC.reg
            [{ dst := some 2, op := MOp.mv (Opd.c (AV.bool false)),
                guard := none }]).seq
        ((MC.reg
              [{ dst := some 4, op := MOp.mv (Opd.s 0), guard := none },
                { dst := some 5, op := MOp.len (Opd.s 4), guard := none },
                { dst := some 6,
                  op :=
                    MOp.bin .sub (Opd.s 5)
                      (Opd.c (AV.int .i64 2)),
                  guard := none },
                { dst := some 3, op := MOp.mv (Opd.s 6), guard := none }]).seq
          ((MC.reg
                [{ dst := some 7, op := MOp.mv (Opd.s 3), guard := none },
                  { dst := some 8,
                    op :=
                      MOp.bin .geq (Opd.s 7)
                        (Opd.c (AV.int .i64 0)),
                    guard := none },
                  { dst := some 9, op := MOp.mv (Opd.s 8), guard := none },
                  { dst := some 10, op := MOp.mv (Opd.s 0), guard := some (9, true) },
                  { dst := some 11, op := MOp.mv (Opd.s 3), guard := some (9, true) },
                  { dst := some 12,
                    op := MOp.slc 1 (Opd.s 10) none (some (Opd.s 11)),
                    guard := some (9, true) },
                  { dst := some 13, op := MOp.call 25 [(1, Opd.s 12)],
                    guard := some (9, true) },
                  { dst := some 14, op := MOp.mv (Opd.s 0), guard := some (9, true) },
                  { dst := some 15, op := MOp.call 43 [(1, Opd.s 13), (1, Opd.s 14)],
                    guard := some (9, true) },
                  { dst := some 16,
                    op := MOp.pick (Opd.s 9) (Opd.s 15) (Opd.c (AV.bool false)),
                    guard := none },
                  { dst := some 2, op := MOp.mv (Opd.s 16), guard := none }]).seq
            MC.ret)) }

def M28 : MFun :=
  { ntmps := 18, res := [MRes.tmp 0 2],
    body :=
      (MC.reg
            [{ dst := some 2, op := MOp.mv (Opd.c (AV.bool false)),
                guard := none }]).seq
        ((MC.draw
              [{ dst := some 3, op := MOp.mv (Opd.s 0), guard := none },
                { dst := some 4, op := MOp.len (Opd.s 3), guard := none },
                { dst := some 5,
                  op :=
                    MOp.bin .geq (Opd.s 4)
                      (Opd.c (AV.int .i64 2)),
                  guard := none },
                { dst := some 6, op := MOp.mv (Opd.s 5), guard := none },
                { dst := some 7, op := MOp.mv (Opd.s 0), guard := some (6, true) },
                { dst := some 8, op := MOp.mv (Opd.s 0), guard := some (6, true) },
                { dst := some 9, op := MOp.len (Opd.s 8), guard := some (6, true) },
                { dst := some 10,
                  op :=
                    MOp.bin .sub (Opd.s 9)
                      (Opd.c (AV.int .i64 2)),
                  guard := some (6, true) },
                { dst := some 11,
                  op := MOp.slc 1 (Opd.s 7) none (some (Opd.s 10)),
                  guard := some (6, true) },
                { dst := some 12, op := MOp.call 26 [(1, Opd.s 11)],
                  guard := some (6, true) },
                { dst := some 13, op := MOp.conv Cv.b2s (Opd.s 12),
                  guard := some (6, true) },
                { dst := some 14, op := MOp.mv (Opd.s 0), guard := some (6, true) },
                { dst := some 15, op := MOp.conv Cv.b2s (Opd.s 14),
                  guard := some (6, true) },
                { dst := some 16, op := MOp.bin .eql (Opd.s 13) (Opd.s 15),
                  guard := some (6, true) },
                { dst := some 17,
                  op := MOp.pick (Opd.s 6) (Opd.s 16) (Opd.c (AV.bool false)),
                  guard := none },
                { dst := some 2, op := MOp.mv (Opd.s 17), guard := none }]
              [0, 1, 3, 7, 15, 15, 47, 111, 255, 511, 1023, 15, 2063, 8191, 16383, 32767]).seq
          MC.ret) }

def M42 : MFun :=
  { ntmps := 8, res := [MRes.tmp 1 2],
    body :=
      (MC.reg
            [{ dst := some 2, op := MOp.mv (Opd.c AV.nils), guard := none }]).seq
        (((MC.reg
                  [{ dst := some 3, op := MOp.mv (Opd.s 0), guard := none },
                    { dst := some 4,
                      op := MOp.eqv false EqK.slc (Opd.s 3) (Opd.c AV.nils),
                      guard := none }]).seq
              (MC.cond (Opd.s 4)
                ((MC.reg
                      [{ dst := some 2, op := MOp.mv (Opd.c AV.nils),
                          guard := none }]).seq
                  MC.ret)
                MC.skip)).seq
          ((MC.reg
                [{ dst := some 5, op := MOp.bsl false 1 0 [] [], guard := none },
                  { dst := some 6, op := MOp.mv (Opd.s 0), guard := none },
                  { dst := some 7, op := MOp.app false 1 1 (Opd.s 5) (Opd.s 6),
                    guard := none },
                  { dst := some 2, op := MOp.mv (Opd.s 7), guard := none }]).seq
            MC.ret)) }

def M43b0 : MC :=
  ((MC.reg
                          [{ dst := some 14, op := MOp.bin .lss (Opd.s 13) (Opd.s 12),
                              guard := none }]).seq
                      ((MC.cond (Opd.s 14) MC.skip (MC.exit 0)).seq
                        ((MC.block 1
                              ((MC.reg
                                    [{ dst := some 15, op := MOp.mv (Opd.s 13),
                                        guard := none },
                                      { dst := some 5, op := MOp.mv (Opd.s 15),
                                        guard := none }]).seq
                                ((MC.draw
                                      [{ dst := some 16, op := MOp.mv (Opd.s 0),
                                          guard := none },
                                        { dst := some 17, op := MOp.mv (Opd.s 5),
                                          guard := none },
                                        { dst := some 18,
                                          op := MOp.ixa 1 (Opd.s 16) (Opd.s 17),
                                          guard := none },
                                        { dst := some 19, op := MOp.load none (Opd.s 18),
                                          guard := none },
                                        { dst := some 20, op := MOp.mv (Opd.s 1),
                                          guard := none },
                                        { dst := some 21, op := MOp.mv (Opd.s 5),
                                          guard := none },
                                        { dst := some 22,
                                          op := MOp.ixa 1 (Opd.s 20) (Opd.s 21),
                                          guard := none },
                                        { dst := some 23, op := MOp.load none (Opd.s 22),
                                          guard := none },
                                        { dst := some 24,
                                          op := MOp.bin .neq (Opd.s 19) (Opd.s 23),
                                          guard := none }]
                                      [0, 0, 3, 7, 0, 0, 48, 112, 255]).seq
                                  (MC.cond (Opd.s 24)
                                    ((MC.reg
                                          [{ dst := some 4,
                                              op := MOp.mv (Opd.c (AV.bool false)),
                                              guard := none }]).seq
                                      MC.ret)
                                    MC.skip)))).seq
                          (MC.reg
                            [{ dst := some 25,
                                op :=
                                  MOp.bin .add (Opd.s 13)
                                    (Opd.c (AV.int .i64 1)),
                                guard := none },
                              { dst := some 13, op := MOp.mv (Opd.s 25),
                                guard := none }]))))
def M43b0l : List Bool := [true, true, false, false, false, false, false, false, false, false, false, false, true, true, false, false, false, false, false, false, false, false, false, false, false, false]

def M43 : MFun :=
  { ntmps := 26, res := [MRes.tmp 0 4],
    body :=
      (MC.reg
            [{ dst := some 4, op := MOp.mv (Opd.c (AV.bool false)),
                guard := none }]).seq
        (((MC.reg
                  [{ dst := some 6, op := MOp.mv (Opd.s 0), guard := none },
                    { dst := some 7, op := MOp.len (Opd.s 6), guard := none },
                    { dst := some 8, op := MOp.mv (Opd.s 1), guard := none },
                    { dst := some 9, op := MOp.len (Opd.s 8), guard := none },
                    { dst := some 10, op := MOp.bin .neq (Opd.s 7) (Opd.s 9),
                      guard := none }]).seq
              (MC.cond (Opd.s 10)
                ((MC.reg
                      [{ dst := some 4, op := MOp.mv (Opd.c (AV.bool false)),
                          guard := none }]).seq
                  MC.ret)
                MC.skip)).seq
          (((MC.reg
                    [{ dst := some 11, op := MOp.mv (Opd.s 0), guard := none },
                      { dst := some 12, op := MOp.len (Opd.s 11), guard := none },
                      { dst := some 13,
                        op := MOp.mv (Opd.c (AV.int .i64 0)),
                        guard := none }]).seq
                (MC.block 0
                  (MC.loop M43b0l M43b0))).seq
            ((MC.reg
                  [{ dst := some 4, op := MOp.mv (Opd.c (AV.bool true)),
                      guard := none }]).seq
              MC.ret))) }

theorem tab20 : tableOf Try.prog 20 = some M20 := by kernel_rfl
theorem tab21 : tableOf Try.prog 21 = some M21 := by kernel_rfl
theorem tab22 : tableOf Try.prog 22 = some M22 := by kernel_rfl
theorem tab23 : tableOf Try.prog 23 = some M23 := by kernel_rfl
theorem tab24 : tableOf Try.prog 24 = some M24 := by kernel_rfl
theorem tab25 : tableOf Try.prog 25 = some M25 := by kernel_rfl
theorem tab26 : tableOf Try.prog 26 = some M26 := by kernel_rfl
theorem tab27 : tableOf Try.prog 27 = some M27 := by kernel_rfl
theorem tab28 : tableOf Try.prog 28 = some M28 := by kernel_rfl
theorem tab42 : tableOf Try.prog 42 = some M42 := by kernel_rfl
theorem tab43 : tableOf Try.prog 43 = some M43 := by kernel_rfl
theorem ev_in {k : Nat} {f : Nat} {m : MFun} (hx : ext f = none) (hF : tableOf Try.prog f = some m) (args : List AV) (s : St) :
    ev (k + 1) f args s = outR m.res (evC noGl (ev k) k m.body (env0 m.ntmps args) s) := by
  simp only [ev, evF, hx, hF]
end Go.Proofs.Ytghfinbdgnggjaa
