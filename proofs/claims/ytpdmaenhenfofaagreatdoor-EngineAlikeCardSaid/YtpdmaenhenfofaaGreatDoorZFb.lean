/- More shapes of arguments: numbers, structs. -/
import Derived.Test.YtpdmaenhenfofaaGreatDoorZFa
set_option linter.unusedVariables false
set_option linter.unusedSimpArgs false
